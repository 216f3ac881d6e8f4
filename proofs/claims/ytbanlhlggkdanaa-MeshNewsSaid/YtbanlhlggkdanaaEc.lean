/- What the law MeshNews needs. Part 3: the texts of Map J1 J2 J3 J4 K1 K2 H5 S1 S2 V1 Ent Fit S3 S4 S5 S6 S7 Frz. -/
import Derived.Test.YtbanlhlggkdanaaEb
import Derived.Maps.RangeRun
import Derived.WideKeyRuns
import Derived.Laws.Pointers
set_option linter.unusedSimpArgs false
set_option linter.unusedVariables false
set_option linter.unusedSectionVars false
namespace Go.Proofs.Ytbanlhlggkdanaa
open Go.RowKit
section
variable {κ ν : Type} [DecidableEq κ]
def entV (f : κ → Value) (g : ν → Value) (e : κ × ν × Nat) : MapEntry := { key := f e.1, val := g e.2.1, born := e.2.2 }
def mfind (k : κ) : List (κ × ν × Nat) → Nat → Option (Nat × ν)
  | [], _ => none
  | e :: r, i => if k = e.1 then some (i, e.2.1) else mfind k r (i + 1)
def mget (k : κ) (l : List (κ × ν × Nat)) : Option ν := (mfind k l 0).map (·.2)
def mput (k : κ) (v : ν) (l : List (κ × ν × Nat)) (c : Nat) : List (κ × ν × Nat) := match mfind k l 0 with
  | some (i, _) => l.modify i (fun e => (e.1, v, e.2.2))
  | none => l ++ [(k, v, c)]
def mclk (k : κ) (l : List (κ × ν × Nat)) (c : Nat) : Nat := match mfind k l 0 with
  | some _ => c
  | none => c + 1
def mdel (k : κ) (l : List (κ × ν × Nat)) : List (κ × ν × Nat) := match mfind k l 0 with
  | some (i, _) => l.eraseIdx i
  | none => l
theorem mfind_key {k : κ} : ∀ {l : List (κ × ν × Nat)} {b i : Nat} {v : ν}, mfind k l b = some (i, v) → b ≤ i ∧ ∃ e, l[i - b]? = some e ∧ e.1 = k ∧ e.2.1 = v
  | [], b, i, v, h => by simp [mfind] at h
  | e :: r, b, i, v, h => by
    unfold mfind at h
    split at h
    · rename_i hk
      simp only [Option.some.injEq, Prod.mk.injEq] at h
      obtain ⟨rfl, rfl⟩ := h
      exact ⟨Nat.le_refl _, e, by simp, hk.symm, rfl⟩
    · obtain ⟨h1, e', h2, h3, h4⟩ := mfind_key h
      refine ⟨by omega, e', ?_, h3, h4⟩
      rw [show i - b = (i - (b + 1)) + 1 by omega]
      simpa using h2
structure KeyT (P : Program) (kt : TypeId) (f : κ → Value) : Prop where
  chk : ∀ (e : Bool) (k : κ) (w : World), (Instr.checkKey e 10000 kt (f k)).run P w = .ok () w
  find : ∀ {ν : Type} (g : ν → Value) (k : κ) (l : List (κ × ν × Nat)) (w : World), (Instr.findKey kt (f k) (l.map (entV f g))).run P w = .ok ((mfind k l 0).map fun p => (p.1, g p.2)) w
  same : ∀ k, Instr.sameBits 10000 (f k) (f k) = true
theorem run_findAsk {P : Program} {kt : TypeId} {f : κ → Value} (hE : ∀ a b w, (Op.equal kt (f a) (f b)).run P w = .ok (decide (a = b)) w) (g : ν → Value) (k : κ) :
    ∀ (l : List (κ × ν × Nat)) (i : Nat) (w : World), (Instr.findAsking kt (f k) (l.map (entV f g)) i).run P w = .ok ((mfind k l i).map fun p => (p.1, g p.2)) w
  | [], i, w => by simp [Instr.findAsking, mfind]
  | e :: r, i, w => by
    have ih := run_findAsk hE g k r (i + 1) w
    simp only [List.map_cons, Instr.findAsking, Sem.run_bind]
    rw [show (entV f g e).key = f e.1 from rfl, hE k e.1 w]
    unfold mfind
    by_cases hk : k = e.1
    · simp [hk, entV]
    · simp only [hk, decide_false, Result.andThen_ok, if_false]
      exact ih
def mapR (r : Nat) (f : κ → Value) (g : ν → Value) (l : List (κ × ν × Nat)) (c : Nat) : Res := objR r (.map (l.map (entV f g)).toArray c)
end
theorem keyInt {P : Program} {kt : TypeId} {q : IntKind} (hu : P.underlying kt = some (.int q)) : KeyT P kt (fun (x : Int) => Value.int .i64 x) where
  chk e k w := by
    rw [show (10000 : Nat) = 9999 + 1 from rfl]
    generalize 9999 = n
    simp [Instr.checkKey, run_underlying hu]
  find := fun {ν} g k l w => by
    have key : ∀ (l : List (Int × ν × Nat)) (i : Nat), Instr.findNow (.int q) (.int .i64 k) (l.map (entV (fun (x : Int) => Value.int .i64 x) g)) i = some ((mfind k l i).map fun p => (p.1, g p.2)) := by
      intro l
      induction l with
      | nil => intro i; rfl
      | cons e r ih =>
        intro i
        simp only [List.map_cons, Instr.findNow, entV, Instr.sameNow, if_true]
        unfold mfind
        by_cases hk : k = e.1
        · simp [hk]
        · have : (k == e.1) = false := by simpa using hk
          simp only [this, hk, if_false]
          exact ih (i + 1)
    simp [Instr.findKey, run_underlying hu, key]
  same k := by
    rw [show (10000 : Nat) = 9999 + 1 from rfl]
    generalize 9999 = n
    simp [Instr.sameBits]
theorem keyTwo {P : Program} {kt : TypeId} (hw : (match P.underlying kt with | some (.array _ _) | some (.struct _) => true | _ => false) = true)
    (hc : ∀ (e : Bool) (a b : Int) (w : World), (Instr.checkKey e 10000 kt (.agg #[.int .i64 a, .int .i64 b])).run P w = .ok () w)
    (hE : ∀ (a b c d : Int) (w : World), (Op.equal kt (.agg #[.int .i64 a, .int .i64 b]) (.agg #[.int .i64 c, .int .i64 d])).run P w = .ok (decide (a = c) && decide (b = d)) w) : KeyT P kt (fun (x : Int × Int) => Value.agg #[.int .i64 x.1, .int .i64 x.2]) where
  chk e k w := hc e k.1 k.2 w
  find := fun {ν} g k l w => by
    rw [run_findKey_eq w hw]
    refine run_findAsk (f := fun (x : Int × Int) => Value.agg #[.int .i64 x.1, .int .i64 x.2]) (fun a b w => ?_) g k l 0 w
    rw [hE]
    congr 1
    by_cases h1 : a.1 = b.1 <;> by_cases h2 : a.2 = b.2 <;> simp [Prod.ext_iff, h1, h2]
  same k := by
    rw [show (10000 : Nat) = 9998 + 1 + 1 from rfl]
    generalize 9998 = n
    simp [Instr.sameBits]
section
variable {κ ν : Type} [DecidableEq κ] {f : κ → Value} {g : ν → Value} {l : List (κ × ν × Nat)} {c r : Nat}
variable {E : Env} {ty : TypeId} {σ : List (Nat × Value)} {μ φ : List Res}
def MapAt (μ φ : List Res) (r : Nat) (es : Array MapEntry) (c : Nat) : Prop := ∀ w, Hold w μ → Hold w φ → w.heap[r]? = some (.map es c)
theorem MapAt_own (hm : mapR r f g l c ∈ μ) : MapAt μ φ r (l.map (entV f g)).toArray c := fun w h1 _ => by
  obtain ⟨S, h, _⟩ := h1 _ hm
  exact h
theorem OJ_makeMap {t : TypeId} : OJ E (.makeMap t none) ty σ μ φ (fun v μ' φ' => ∃ b, v = .map (some b) ∧ μ' = objR b (.map #[] 0) :: μ ∧ φ' = φ) := fun a w d pos af gd K Q hs hm hK => by
  have : (execOp a.eval ⟨d, .makeMap t none, ty, pos, af, gd⟩).run E.P w = .ok (.value (.map (some w.heap.size))) (w.alloc (.map #[] 0)) := by
    simp only [execOp, Option.map_none]
    simp [Instr.makeMap, run_newObj_alloc]
  unfold Oper.wp
  rw [this, Oper.upon_value]
  exact hK _ _ _ _ ⟨w.heap.size, rfl, rfl, rfl⟩ (hm.newObj _)
theorem run_lookup {P : Program} {t kt et : TypeId} {z : Value} {w : World} {k : κ} (hu : P.underlying t = some (.map kt et)) (hK : KeyT P kt f) (hz : zer P et = some z) (hb : w.heap[r]? = some (.map (l.map (entV f g)).toArray c)) (ok : Bool) :
    (Instr.lookup t (.map (some r)) (f k) ok).run P w = .ok (if ok then .tuple #[((mget k l).map g).getD z, .bool (mget k l).isSome] else ((mget k l).map g).getD z) w := by
  have h1 := hK.chk (l.map (entV f g)).toArray.isEmpty k w
  have h2 := hK.find g k l w
  simp only [Instr.lookup, Sem.run_bind, run_underlying hu, Result.andThen_ok, MapKept.run_getObj_map hb, Sem.run_pure, h1, h2]
  unfold mget
  cases hf : mfind k l 0 with
  | none => cases ok <;> simp [run_zeroValue' hz]
  | some p => cases ok <;> simp
theorem YJ_lookup {t kt et : TypeId} {x y : Operand} {z : Value} {k : κ} {ok : Bool} {v : Value} (hx : oev σ x = some (.map (some r))) (hy : oev σ y = some (f k)) (hu : E.P.underlying t = some (.map kt et)) (hK : KeyT E.P kt f) (hz : zer E.P et = some z) (hm : MapAt μ φ r (l.map (entV f g)).toArray c)
    (hv : (if ok then .tuple #[((mget k l).map g).getD z, .bool (mget k l).isSome] else ((mget k l).map g).getD z) = v) : YJ E (.lookup t x y ok) ty σ μ φ v := fun a w d pos af gd hs h1 h2 => by
  subst hv
  simp only [execOp, hs.ev hx, hs.ev hy]
  simp [run_lookup (k := k) hu hK hz (hm w h1 h2) ok]
theorem YJ_lenMap {x : Operand} {t kt et : TypeId} {n : Nat} (hx : oev σ x = some (.map (some r))) (hu : E.P.underlying t = some (.map kt et)) (hm : MapAt μ φ r (l.map (entV f g)).toArray c) (hn : l.length = n) :
    YJ E (.call { callee := .builtin .len, args := #[x], argTypes := #[t] }) ty σ μ φ (.int .i64 n) := fun a w d pos af gd hs h1 h2 => by
  subst hn
  simp only [execOp, hs.ev hx]
  have hb := hm w h1 h2
  simp [resolve, invoke, builtin, hs.ev hx, Builtin.len_, run_underlying hu, MapKept.run_getObj_map hb, goInt]
theorem OJ_putObj {k : Nat} {op : Op} {b : Nat} {o o' : Obj} (hk : μ[k]? = some (objR b o)) {nx : Next} {v : Value} (hnx : nx = .skip ∨ nx = .value v)
    (hr : ∀ a w d pos af gd, Slots σ a → OKm E μ φ w → w.heap[b]? = some o → (execOp a.eval ⟨d, op, ty, pos, af, gd⟩).run E.P w = .ok nx (w.putObj b o')) :
    OJ E op ty σ μ φ (fun u μ' φ' => (nx = .value v → u = v) ∧ μ' = μ.set k (objR b o') ∧ φ' = φ) := fun a w d pos af gd K Q hs hm hK => by
  have h1 : OKm E (objR b o :: μ.eraseIdx k) φ w := hm.weak (μr := []) (by simpa using perm_at hk) (fun _ h => h)
  have h2 := hr a w d pos af gd hs hm h1.objAt
  have h3 : OKm E (μ.set k (objR b o')) φ (w.putObj b o') := (h1.putObj o').weak (μr := []) (by simpa using perm_set _ hk) (fun _ h => h)
  unfold Oper.wp
  rcases hnx with rfl | rfl
  · rw [h2, Oper.upon_skip]
    exact hK _ _ _ _ ⟨(fun h => nomatch h), rfl, rfl⟩ h3
  · rw [h2, Oper.upon_value]
    exact hK _ _ _ _ ⟨fun _ => rfl, rfl, rfl⟩ h3
theorem modify_ent {l : List (κ × ν × Nat)} {i : Nat} {v : ν} {e : κ × ν × Nat} (he : l[i]? = some e) : (l.map (entV f g)).toArray.modify i (fun q => { q with key := f e.1, val := g v }) = ((l.modify i (fun e => (e.1, v, e.2.2))).map (entV f g)).toArray := by
  apply Array.toList_inj.1
  apply List.ext_getElem?
  intro j
  simp only [Array.toList_modify, List.getElem?_modify, List.getElem?_map]
  by_cases hj : i = j
  · subst hj
    simp [he, entV]
  · simp [hj]
theorem OJ_mapUpdate {t kt et : TypeId} {x y z : Operand} {k : κ} {v : ν} {l' : List (κ × ν × Nat)} {c' : Nat} (n : Nat) (hk : μ[n]? = some (mapR r f g l c)) (hx : oev σ x = some (.map (some r))) (hy : oev σ y = some (f k)) (hz : oev σ z = some (g v)) (hu : E.P.underlying t = some (.map kt et)) (hK : KeyT E.P kt f)
    (hl : mput k v l c = l') (hc : mclk k l c = c') : OJ E (.mapUpdate t x y z) ty σ μ φ (fun _ μ' φ' => μ' = μ.set n (mapR r f g l' c') ∧ φ' = φ) := by
  subst hl; subst hc
  refine OJ_conv (OJ_putObj (o' := .map ((mput k v l c).map (entV f g)).toArray (mclk k l c)) hk (nx := .skip) (v := undef) (.inl rfl) ?_) (fun u μ' φ' h => ⟨_, ⟨h.2.1, h.2.2⟩, List.Perm.refl _⟩)
  intro a w d pos af gd hs hm hb
  have h1 := hK.chk false k w
  have h2 := hK.find g k l w
  simp only [execOp, hs.ev hx, hs.ev hy, hs.ev hz]
  simp only [Instr.mapUpdate, Sem.run_bind, run_underlying hu, Result.andThen_ok, MapKept.run_getObj_map hb, h1, h2]
  unfold mput mclk
  cases hf : mfind k l 0 with
  | none =>
    simp only [Option.map_none, MapKept.run_setObj_map _ hb]
    simp [World.putObj, entV]
  | some p =>
    obtain ⟨i, v0⟩ := p
    obtain ⟨_, e, he, hek, _⟩ := mfind_key hf
    simp only [Nat.sub_zero] at he
    have hkey : ((((l.map (entV f g)).toArray)[i]?).map (·.key)).getD (f k) = f k := by
      simp [he, entV, hek]
    have hks : (Instr.keyThatStays (f k) (f k)).run E.P w = .ok (f k) w := by
      unfold Instr.keyThatStays
      simp [hK.same k]
    have hmod := modify_ent (f := f) (g := g) (v := v) he
    rw [hek] at hmod
    simp only [Option.map_some, Sem.run_bind, hkey, hks, Result.andThen_ok, MapKept.run_setObj_map _ hb]
    simp only [World.putObj, hmod]
    rfl
def itR (it r since : Nat) (seen : List Nat) (c0 : Nat) : Res := objR it (.mapIter (some r) since seen.toArray c0)
theorem OJ_range {t kt et : TypeId} {x : Operand} (hx : oev σ x = some (.map (some r))) (hu : E.P.underlying t = some (.map kt et)) (hm : MapAt μ φ r (l.map (entV f g)).toArray c) :
    OJ E (.range t x) ty σ μ φ (fun v μ' φ' => ∃ b, v = .pointer (some ⟨b, 0, none⟩) ∧ μ' = itR b r c [] c :: μ ∧ φ' = φ) := fun a w d pos af gd K Q hs hm0 hK => by
  have hb := hm w hm0.hold.1 hm0.hold.2
  have : (execOp a.eval ⟨d, .range t x, ty, pos, af, gd⟩).run E.P w = .ok (.value (.pointer (some ⟨w.heap.size, 0, none⟩))) (w.alloc (.mapIter (some r) c #[] c)) := by
    simp only [execOp, hs.ev hx]
    simp [run_range_map w t kt et r _ c hu hb]
  unfold Oper.wp
  rw [this, Oper.upon_value]
  exact hK _ _ _ _ ⟨w.heap.size, rfl, rfl, rfl⟩ (hm0.newObj _)
def leftL (l : List (κ × ν × Nat)) (seen : List Nat) : List (κ × ν × Nat) := l.filter fun e => !seen.contains e.2.2
theorem left_map (l : List (κ × ν × Nat)) (seen : List Nat) : (leftOf (l.map (entV f g)).toArray seen.toArray).toList = (leftL l seen).map (entV f g) := by
  unfold leftOf leftL
  rw [Array.toList_filter]
  simp only [List.contains_toArray]
  induction l with
  | nil => rfl
  | cons e l ih =>
    simp only [List.map_cons, List.filter_cons]
    rw [show (entV f g e).born = e.2.2 from rfl, ih]
    split <;> rfl
theorem OJ_next {x : Operand} {it since c0 : Nat} {seen : List Nat} (n : Nat) (hk : μ[n]? = some (itR it r since seen c0)) (hx : oev σ x = some (.pointer (some ⟨it, 0, none⟩))) (hm : MapAt μ φ r (l.map (entV f g)).toArray c)
    (hold : ∀ e ∈ l, e.2.2 < since) (hsc : since ≤ c0) :
    OJ E (.next x false) ty σ μ φ (fun v μ' φ' => (leftL l seen = [] ∧ v = .tuple #[.bool false] ∧ μ' = μ ∧ φ' = φ) ∨
      ∃ e ∈ leftL l seen, v = .tuple #[.bool true, f e.1, g e.2.1] ∧ μ' = μ.set n (itR it r since (seen ++ [e.2.2]) c) ∧ φ' = φ) := fun a w d pos af gd K Q hs hm0 hK => by
  have h1 : OKm E (objR it (.mapIter (some r) since seen.toArray c0) :: μ.eraseIdx n) φ w := hm0.weak (μr := []) (by rw [List.append_nil]; exact perm_at hk) (fun _ h => h)
  have hb := hm w hm0.hold.1 hm0.hold.2
  have hh : ∀ e' ∈ (l.map (entV f g)).toArray.toList, e'.born < since := by
    intro e' he'
    simp only [List.mem_map] at he'
    obtain ⟨e, he, rfl⟩ := he'
    exact hold e he
  rcases run_next_at (P := E.P) w ty it r since c0 seen.toArray _ c h1.objAt hb hh hsc with ⟨h0, hr⟩ | ⟨e', he', w1, hw1, hr⟩
  · have : (execOp a.eval ⟨d, .next x false, ty, pos, af, gd⟩).run E.P w = .ok (.value (.tuple #[.bool false])) w := by
      simp only [execOp, hs.ev hx]
      simp [hr]
    unfold Oper.wp
    rw [this, Oper.upon_value]
    refine hK _ _ _ _ (.inl ⟨?_, rfl, rfl, rfl⟩) hm0
    have e0 : (leftOf (l.map (entV f g)).toArray seen.toArray).toList.length = 0 := by simpa using h0
    rw [left_map] at e0
    simpa using e0
  · rw [left_map] at he'
    obtain ⟨e, he, rfl⟩ := List.mem_map.1 he'
    have : (execOp a.eval ⟨d, .next x false, ty, pos, af, gd⟩).run E.P w = .ok (.value (.tuple #[.bool true, f e.1, g e.2.1])) (w1.putObj it (.mapIter (some r) since (seen ++ [e.2.2]).toArray c)) := by
      simp only [execOp, hs.ev hx]
      simp [hr, entV, ChangeMaps.setBlock, World.putObj]
    unfold Oper.wp
    rw [this, Oper.upon_value]
    have h2 : OKm E (objR it (.mapIter (some r) since seen.toArray c0) :: μ.eraseIdx n) φ w1 := by
      rcases hw1 with rfl | rfl
      · exact h1
      · exact h1.drew
    exact hK _ _ _ _ (.inr ⟨e, he, rfl, rfl, rfl⟩) ((h2.putObj _).weak (μr := []) (by rw [List.append_nil]; exact perm_set _ hk) (fun _ h => h))
theorem YJ_entry {x : Operand} {it since : Nat} {seen : List Nat} {e : κ × ν × Nat} (hx : oev σ x = some (.pointer (some ⟨it, 0, none⟩))) (hit : itR it r since (seen ++ [e.2.2]) c ∈ μ) (hm : MapAt μ φ r (l.map (entV f g)).toArray c) (he : e ∈ l) (hn : (l.map (·.2.2)).Nodup) :
    YJ E (.entry x) ty σ μ φ (.tuple #[f e.1, g e.2.1]) := fun a w d pos af gd hs h1 h2 => by
  obtain ⟨S, h, _⟩ := h1 _ hit
  have hb := hm w h1 h2
  have h' : w.heap[it]? = some (.mapIter (some r) since (seen.toArray.push (entV f g e).born) c) := by
    rw [h]
    simp [entV]
  have := run_entry_at (P := E.P) w it r since seen.toArray _ c (entV f g e) h' hb (by simpa using ⟨e.1, e.2.1, e.2.2, he, rfl⟩) (by
    have e1 : (l.map (entV f g)).toArray.toList.map (·.born) = l.map (·.2.2) := by simp [entV, Function.comp_def]
    rw [e1]; exact hn)
  simp only [execOp, hs.ev hx]
  simp [this, entV]
variable {Q : Qt} {ops : Array Oper} {rest : List Oper} {d : Tmp} {pos : String} {af : Array Edge} {gd : Option (Nat × Bool)} {ml pl : List Res} {fuel : Nat} {listed : Array Bool} {M : List (Res × List Nat)}
theorem LJ_makeMap {t : TypeId} (hg : grd ops σ gd = some true) (hd : Nat.blt d E.N = true) (h : ∀ b, LJ E Q ops rest ((d, .map (some b)) :: σ) (objR b (.map #[] 0) :: μ) φ) : LJ E Q ops (⟨some d, .makeMap t none, ty, pos, af, gd⟩ :: rest) σ μ φ :=
  LJ_o hg hd OJ_makeMap (by rintro _ _ _ ⟨b, rfl, rfl, rfl⟩; exact h b)
theorem LJ_mapUpdate {t kt et : TypeId} {x y z : Operand} {k : κ} {v : ν} {l' : List (κ × ν × Nat)} {c' : Nat} (n : Nat) (hg : grd ops σ gd = some true) (hk : μ[n]? = some (mapR r f g l c)) (hx : oev σ x = some (.map (some r))) (hy : oev σ y = some (f k)) (hz : oev σ z = some (g v)) (hu : E.P.underlying t = some (.map kt et)) (hK : KeyT E.P kt f)
    (hl : mput k v l c = l') (hc : mclk k l c = c') (h : LJ E Q ops rest σ (μ.set n (mapR r f g l' c')) φ) : LJ E Q ops (⟨none, .mapUpdate t x y z, ty, pos, af, gd⟩ :: rest) σ μ φ :=
  LJ_o0 hg (OJ_mapUpdate n hk hx hy hz hu hK hl hc) (by rintro _ _ _ ⟨rfl, rfl⟩; exact h)
theorem AJ_mapUpdate {t kt et : TypeId} {x y z : Operand} {k : κ} {v : ν} {l' : List (κ × ν × Nat)} {c' : Nat} (i n : Nat) (hi : ops[i]? = some ⟨none, .mapUpdate t x y z, ty, pos, af, gd⟩) (hr : Region.ready .any ops listed = [i]) (hg : grd ops σ gd = some true) (hk : μ[n]? = some (mapR r f g l c)) (hx : oev σ x = some (.map (some r))) (hy : oev σ y = some (f k)) (hz : oev σ z = some (g v)) (hu : E.P.underlying t = some (.map kt et)) (hK : KeyT E.P kt f)
    (hl : mput k v l c = l') (hc : mclk k l c = c') (hml : ∀ q, q ∈ ml → q ∈ μ.set n (mapR r f g l' c')) (h : AJ E Q ops ml pl fuel (listed.setIfInBounds i true) σ (μ.set n (mapR r f g l' c')) φ) : AJ E Q ops ml pl (fuel + 1) listed σ μ φ :=
  AJ_o0 i hi hr hg (OJ_mapUpdate n hk hx hy hz hu hK hl hc) (by rintro _ _ _ ⟨rfl, rfl⟩; exact ⟨fun _ => hml, fun _ _ h => h, h⟩)
theorem LJ_range {t kt et : TypeId} {x : Operand} (hg : grd ops σ gd = some true) (hd : Nat.blt d E.N = true) (hx : oev σ x = some (.map (some r))) (hu : E.P.underlying t = some (.map kt et)) (hm : MapAt μ φ r (l.map (entV f g)).toArray c)
    (h : ∀ b, LJ E Q ops rest ((d, .pointer (some ⟨b, 0, none⟩)) :: σ) (itR b r c [] c :: μ) φ) : LJ E Q ops (⟨some d, .range t x, ty, pos, af, gd⟩ :: rest) σ μ φ :=
  LJ_o hg hd (OJ_range hx hu hm) (by rintro _ _ _ ⟨b, rfl, rfl, rfl⟩; exact h b)
theorem LJ_next {x : Operand} {it since c0 : Nat} {seen : List Nat} (n : Nat) (hg : grd ops σ gd = some true) (hd : Nat.blt d E.N = true) (hk : μ[n]? = some (itR it r since seen c0)) (hx : oev σ x = some (.pointer (some ⟨it, 0, none⟩))) (hm : MapAt μ φ r (l.map (entV f g)).toArray c)
    (hold : ∀ e ∈ l, e.2.2 < since) (hsc : since ≤ c0) (h0 : leftL l seen = [] → LJ E Q ops rest ((d, .tuple #[.bool false]) :: σ) μ φ) (h1 : ∀ e, e ∈ leftL l seen → LJ E Q ops rest ((d, .tuple #[.bool true, f e.1, g e.2.1]) :: σ) (μ.set n (itR it r since (seen ++ [e.2.2]) c)) φ) : LJ E Q ops (⟨some d, .next x false, ty, pos, af, gd⟩ :: rest) σ μ φ :=
  LJ_o hg hd (OJ_next n hk hx hm hold hsc) (by rintro _ _ _ (⟨h, rfl, rfl, rfl⟩ | ⟨e, he, rfl, rfl, rfl⟩); exact h0 h; exact h1 e he)
end
section
variable {E : Env} {Q : Qt} {ops : Array Oper} {ml pl : List Res} {A : List Al} {fuel : Nat} {L : Array Bool} {σ : List (Nat × Value)} {μ φ : List Res}
end
end Go.Proofs.Ytbanlhlggkdanaa
namespace Go.Proofs.Ytbanlhlggkdanaa
open Go.RowKit
abbrev fK : Int × Int → Value := fun x => .agg #[.int .i64 x.1, .int .i64 x.2]
abbrev gI : Int → Value := fun x => .int .i64 x
abbrev MapO := List ((Int × Int) × (Int × Int) × Nat)
abbrev MapI := List ((Int × Int) × Int × Nat)
def flt (F : MapI) (a b : Int) : Bool := decide (0 ≤ a) && (decide (0 ≤ b) && decide (0 < (mget (min a b, max a b) F).getD 0))
structure BS where
 M : MD
 L : MapO
 c : Nat
def joinE (F : MapI) (n : Nat) (v0 v1 v2 : Int) (s : BS) (i : Nat) : BS :=
 match mget (at3 v0 v1 v2 ((i + 2) % 3), at3 v0 v1 v2 ((i + 1) % 3)) s.L with
 | some x => ⟨s.M.link n i x.1.toNat x.2.toNat (flt F (at3 v0 v1 v2 ((i + 1) % 3)) (at3 v0 v1 v2 ((i + 2) % 3))), mdel (at3 v0 v1 v2 ((i + 2) % 3), at3 v0 v1 v2 ((i + 1) % 3)) s.L, s.c⟩
 | none => ⟨s.M, mput (at3 v0 v1 v2 ((i + 1) % 3), at3 v0 v1 v2 ((i + 2) % 3)) ((n : Int), (i : Int)) s.L s.c, mclk (at3 v0 v1 v2 ((i + 1) % 3), at3 v0 v1 v2 ((i + 2) % 3)) s.L s.c⟩
def joinB (F : MapI) (n : Nat) (v0 v1 v2 : Int) (s : BS) : BS := [0, 1, 2].foldl (joinE F n v0 v1 v2) s
theorem link_len (M : MD) (t i u j : Nat) (f : Bool) : (M.link t i u j f).tris.length = M.tris.length := by simp [MD.link]
theorem mget_mem {κ ν : Type} [DecidableEq κ] {k : κ} {l : List (κ × ν × Nat)} {v : ν} (h : mget k l = some v) : ∃ e, e ∈ l ∧ e.1 = k ∧ e.2.1 = v := by
 unfold mget at h
 cases hf : mfind k l 0 with
 | none => rw [hf] at h; cases h
 | some p =>
  rw [hf] at h
  obtain ⟨i, v'⟩ := p
  obtain ⟨_, e, h1, h2, h3⟩ := mfind_key hf
  simp at h
  subst h
  exact ⟨e, List.mem_of_getElem? h1, h2, h3⟩
theorem mdel_mem {κ ν : Type} [DecidableEq κ] {k : κ} {l : List (κ × ν × Nat)} {e : κ × ν × Nat} (h : e ∈ mdel k l) : e ∈ l := by
 unfold mdel at h
 split at h
 ·exact List.mem_of_mem_eraseIdx h
 ·exact h
theorem mput_mem {κ ν : Type} [DecidableEq κ] {k : κ} {v : ν} {l : List (κ × ν × Nat)} {c : Nat} {e : κ × ν × Nat} (h : e ∈ mput k v l c) : e.2.1 = v ∨ e ∈ l := by
 unfold mput at h
 split at h
 ·obtain ⟨i, hi⟩ := List.mem_iff_getElem?.1 h
  rw [List.getElem?_modify] at hi
  split at hi
  ·rename_i hj
   cases hl : l[i]? with
   | none => rw [hl] at hi; simp at hi
   | some e' => rw [hl] at hi; simp at hi; subst hi; exact .inl rfl
  ·simp at hi
   exact .inr (List.mem_of_getElem? hi)
 ·rcases List.mem_append.1 h with h | h
  ·exact .inr h
  ·rcases List.mem_singleton.1 h with rfl
   exact .inl rfl
end Go.Proofs.Ytbanlhlggkdanaa
namespace Go.Proofs.Ytbanlhlggkdanaa
open Go.RowKit
theorem mput_born {κ ν : Type} [DecidableEq κ] {k : κ} {v : ν} {l : List (κ × ν × Nat)} {c : Nat} (hc : ∀ e, e ∈ l → e.2.2 < c) (h : (l.map (·.2.2)).Nodup) : ((mput k v l c).map (·.2.2)).Nodup ∧ ∀ e, e ∈ mput k v l c → e.2.2 < mclk k l c := by
 unfold mput mclk
 cases hf : mfind k l 0 with
 | some p =>
  obtain ⟨i, v'⟩ := p
  dsimp only
  have e1 : (l.modify i (fun e => (e.1, v, e.2.2))).map (·.2.2) = l.map (·.2.2) := by
   apply List.ext_getElem?
   intro j
   simp only [List.getElem?_map, List.getElem?_modify]
   cases l[j]? with
   | none => simp
   | some e => by_cases hj : i = j <;> simp [hj]
  refine ⟨by rw [e1]; exact h, fun e he => ?_⟩
  have : e.2.2 ∈ l.map (·.2.2) := by rw [← e1]; exact List.mem_map.2 ⟨e, he, rfl⟩
  obtain ⟨e', he', hb⟩ := List.mem_map.1 this
  rw [← hb]; exact hc e' he'
 | none =>
  dsimp only
  refine ⟨?_, fun e he => ?_⟩
  ·rw [List.map_append, List.nodup_append]
   refine ⟨h, by simp, ?_⟩
   intro a ha b hb
   obtain ⟨e, he, rfl⟩ := List.mem_map.1 ha
   simp at hb
   subst hb
   have := hc e he
   omega
  ·rcases List.mem_append.1 he with he | he
   ·have := hc e he; omega
   ·rcases List.mem_singleton.1 he with rfl
    exact Nat.lt_succ_self c
theorem mput_key {κ ν : Type} [DecidableEq κ] {k : κ} {v : ν} {l : List (κ × ν × Nat)} {c : Nat} {e : κ × ν × Nat} (h : e ∈ mput k v l c) : e.1 = k ∨ ∃ e', e' ∈ l ∧ e'.1 = e.1 := by
 unfold mput at h
 split at h
 ·obtain ⟨i, hi⟩ := List.mem_iff_getElem?.1 h
  rw [List.getElem?_modify] at hi
  cases hl : l[i]? with
  | none => rw [hl] at hi; simp at hi
  | some e' =>
   rw [hl] at hi
   refine .inr ⟨e', List.mem_of_getElem? hl, ?_⟩
   simp at hi
   split at hi <;> (subst hi; rfl)
 ·rcases List.mem_append.1 h with h | h
  ·exact .inr ⟨e, h, rfl⟩
  ·rcases List.mem_singleton.1 h with rfl
   exact .inl rfl
def stepT (F : MapI) (s : BS) (v : Int × Int × Int) : BS := joinB F s.M.nextN.toNat v.1 v.2.1 v.2.2 ⟨s.M.make v.1 v.2.1 v.2.2, s.L, s.c⟩
end Go.Proofs.Ytbanlhlggkdanaa
namespace Go.Proofs.Ytbanlhlggkdanaa
open Go.RowKit
theorem zer_28 : zer Try.prog 28 = some (.pointer none) := by kernel_rfl
theorem nodup_of_map {α β : Type} {f : α → β} : ∀ {l : List α}, (l.map f).Nodup → l.Nodup
 | [], _ => List.nodup_nil
 | x :: l, h => by
  rw [List.map_cons, List.nodup_cons] at h
  rw [List.nodup_cons]
  exact ⟨fun q => h.1 (List.mem_map.2 ⟨x, q, rfl⟩), nodup_of_map h.2⟩
def stepG (F : MapI) (s : BS) (e : (Int × Int) × (Int × Int) × Nat) : BS := stepT F s (e.1.2, e.1.1, -1)
theorem mput_len {κ ν : Type} [DecidableEq κ] {k : κ} {v : ν} {l : List (κ × ν × Nat)} {c : Nat} : (mput k v l c).length ≤ l.length + 1 := by
 unfold mput
 split <;> simp
theorem get_at {α : Type} {l : List α} {k : Nat} (h : ((k : Nat) : Int) < (l.length : Nat)) : ∃ x, l[k]? = some x := ⟨l[k]'(by omega), List.getElem?_eq_getElem (by omega)⟩
end Go.Proofs.Ytbanlhlggkdanaa
namespace Go.Proofs.Ytbanlhlggkdanaa
open Go.RowKit
def atI (W : Nat) (x y : Int) : Int := y * ((W : Int) + 1) + x
def ptsG (W y x : Nat) : List (Int × Int) := (List.range y).flatMap (fun b => (List.range (W + 1)).map fun (a : Nat) => (2 * (a : Int), 2 * ((b : Nat) : Int))) ++ (List.range x).map fun (a : Nat) => (2 * (a : Int), 2 * (y : Int))
def tri2 (W : Nat) (f : Nat → Bool) (y x : Nat) : List (Int × Int × Int) :=
 bif f (W * y + x) then [(atI W x y, atI W ((x : Int) + 1) y, atI W ((x : Int) + 1) ((y : Int) + 1)), (atI W ((x : Int) + 1) ((y : Int) + 1), atI W x ((y : Int) + 1), atI W x y)]
 else [(atI W ((x : Int) + 1) y, atI W x ((y : Int) + 1), atI W x y), (atI W x ((y : Int) + 1), atI W ((x : Int) + 1) y, atI W ((x : Int) + 1) ((y : Int) + 1))]
def trisG (W : Nat) (f : Nat → Bool) (y x : Nat) : List (Int × Int × Int) := (List.range y).flatMap (fun b => (List.range W).flatMap (tri2 W f b)) ++ (List.range x).flatMap (tri2 W f y)
def gPts (W H : Nat) : List (Int × Int) := ptsG W (H + 1) 0
def gTris (W H : Nat) (f : Nat → Bool) : List (Int × Int × Int) := trisG W f H 0
end Go.Proofs.Ytbanlhlggkdanaa
namespace Go.Proofs.Ytbanlhlggkdanaa
open Go.RowKit
section
variable {κ ν : Type} [DecidableEq κ]
theorem mfind_succ {k : κ} : ∀ (l : List (κ × ν × Nat)) (b : Nat), mfind k l (b + 1) = (mfind k l b).map (fun p => (p.1 + 1, p.2))
 | [], b => rfl
 | e :: r, b => by
  unfold mfind
  split
  ·rfl
  ·exact mfind_succ r (b + 1)
theorem mget_nil {k : κ} : mget k ([] : List (κ × ν × Nat)) = none := rfl
theorem mget_cons {k : κ} {e : κ × ν × Nat} {l : List (κ × ν × Nat)} : mget k (e :: l) = if k = e.1 then some e.2.1 else mget k l := by
 unfold mget
 rw [mfind]
 by_cases h : k = e.1
 ·rw [if_pos h, if_pos h]; rfl
 ·rw [if_neg h, if_neg h, mfind_succ]; cases mfind k l 0 <;> rfl
theorem mput_nil {k : κ} {v : ν} {c : Nat} : mput k v ([] : List (κ × ν × Nat)) c = [(k, v, c)] := rfl
theorem mput_cons {k : κ} {v : ν} {e : κ × ν × Nat} {l : List (κ × ν × Nat)} {c : Nat} : mput k v (e :: l) c = if k = e.1 then (e.1, v, e.2.2) :: l else e :: mput k v l c := by
 unfold mput
 rw [mfind]
 by_cases h : k = e.1
 ·rw [if_pos h, if_pos h]; rfl
 ·rw [if_neg h, if_neg h, mfind_succ]; cases mfind k l 0 <;> rfl
theorem mdel_cons {k : κ} {e : κ × ν × Nat} {l : List (κ × ν × Nat)} : mdel k (e :: l) = if k = e.1 then l else e :: mdel k l := by
 unfold mdel
 rw [mfind]
 by_cases h : k = e.1
 ·rw [if_pos h, if_pos h]; rfl
 ·rw [if_neg h, if_neg h, mfind_succ]; cases mfind k l 0 <;> rfl
theorem mget_mput {k k' : κ} {v : ν} {c : Nat} : ∀ {l : List (κ × ν × Nat)}, mget k' (mput k v l c) = if k' = k then some v else mget k' l
 | [] => by rw [mput_nil, mget_cons, mget_nil]
 | e :: l => by
  rw [mput_cons]
  by_cases h : k = e.1
  ·rw [if_pos h, mget_cons, mget_cons, ← h]
   by_cases h2 : k' = k <;> simp [h2]
  ·rw [if_neg h, mget_cons, mget_cons, mget_mput]
   by_cases h2 : k' = e.1
   ·subst h2; rw [if_pos rfl, if_pos rfl, if_neg (fun q => h q.symm)]
   ·rw [if_neg h2, if_neg h2]
theorem mget_mdel_ne {k k' : κ} (h : k' ≠ k) : ∀ {l : List (κ × ν × Nat)}, mget k' (mdel k l) = mget k' l
 | [] => rfl
 | e :: l => by
  rw [mdel_cons]
  by_cases h1 : k = e.1
  ·rw [if_pos h1, mget_cons, if_neg (fun q => h (q.trans h1.symm))]
  ·rw [if_neg h1, mget_cons, mget_cons, mget_mdel_ne h]
theorem mget_none {k : κ} : ∀ {l : List (κ × ν × Nat)}, ¬ k ∈ l.map (·.1) → mget k l = none
 | [], _ => rfl
 | e :: l, h => by
  rw [List.map_cons, List.mem_cons, not_or] at h
  rw [mget_cons, if_neg h.1]; exact mget_none h.2
theorem mget_mdel_eq {k : κ} : ∀ {l : List (κ × ν × Nat)}, (l.map (·.1)).Nodup → mget k (mdel k l) = none
 | [], _ => rfl
 | e :: l, h => by
  rw [List.map_cons, List.nodup_cons] at h
  rw [mdel_cons]
  by_cases h1 : k = e.1
  ·rw [if_pos h1]; exact mget_none (h1 ▸ h.1)
  ·rw [if_neg h1, mget_cons, if_neg h1]; exact mget_mdel_eq h.2
theorem mdel_keys {k : κ} {l : List (κ × ν × Nat)} (h : (l.map (·.1)).Nodup) : ((mdel k l).map (·.1)).Nodup := by
 unfold mdel
 split
 ·exact h.sublist (List.Sublist.map _ (List.eraseIdx_sublist _ _))
 ·exact h
theorem mput_keys {k : κ} {v : ν} {c : Nat} : ∀ {l : List (κ × ν × Nat)}, (l.map (·.1)).Nodup → ((mput k v l c).map (·.1)).Nodup
 | [], _ => by rw [mput_nil]; simp
 | e :: l, h => by
  rw [mput_cons]
  by_cases h1 : k = e.1
  ·rw [if_pos h1]; exact h
  ·rw [if_neg h1]
   rw [List.map_cons, List.nodup_cons] at h ⊢
   refine ⟨fun q => ?_, mput_keys h.2⟩
   obtain ⟨e', he', q2⟩ := List.mem_map.1 q
   rcases mput_key he' with q3 | ⟨e2, q3, q4⟩
   ·exact h1 (q3.symm.trans q2)
   ·exact h.1 (List.mem_map.2 ⟨e2, q3, q4.trans q2⟩)
theorem mget_of_mem : ∀ {l : List (κ × ν × Nat)} {e : κ × ν × Nat}, (l.map (·.1)).Nodup → e ∈ l → mget e.1 l = some e.2.1
 | x :: l, e, hn, h => by
  rw [List.map_cons, List.nodup_cons] at hn
  rw [mget_cons]
  rcases List.mem_cons.1 h with rfl | h
  ·rw [if_pos rfl]
  ·rw [if_neg (fun q : e.1 = x.1 => hn.1 (q ▸ List.mem_map.2 ⟨e, h, rfl⟩))]; exact mget_of_mem hn.2 h
end
def vw (l : List Tr) (q : Nat) : Option (Int × Int × Int) := l[q]?.map fun t => (t.v0, t.v1, t.v2)
def nb (l : List Tr) (q k : Nat) : Option Int := l[q]?.map fun t => t.n k
def rv (v : Int × Int × Int) : Prop := 0 ≤ v.1 ∧ 0 ≤ v.2.1 ∧ 0 ≤ v.2.2
instance (v : Int × Int × Int) : Decidable (rv v) := inferInstanceAs (Decidable (_ ∧ _))
theorem setN_v (t : Tr) (i : Nat) (u : Int) : (t.setN i u).v0 = t.v0 ∧ (t.setN i u).v1 = t.v1 ∧ (t.setN i u).v2 = t.v2 := by
 unfold Tr.setN
 (repeat' split) <;> exact ⟨rfl, rfl, rfl⟩
theorem setF_v (t : Tr) (i : Nat) (f : Bool) : (t.setF i f).v0 = t.v0 ∧ (t.setF i f).v1 = t.v1 ∧ (t.setF i f).v2 = t.v2 := by
 unfold Tr.setF
 (repeat' split) <;> exact ⟨rfl, rfl, rfl⟩
theorem setF_n (t : Tr) (i : Nat) (f : Bool) (k : Nat) : (t.setF i f).n k = t.n k := by
 unfold Tr.setF
 (repeat' split) <;> rfl
theorem setN_n (t : Tr) {i k : Nat} (u : Int) (hi : i < 3) (hk : k < 3) : (t.setN i u).n k = if k = i then u else t.n k := by
 match i, hi, k, hk with
 | 0, _, 0, _ => rfl
 | 0, _, 1, _ => rfl
 | 0, _, 2, _ => rfl
 | 1, _, 0, _ => rfl
 | 1, _, 1, _ => rfl
 | 1, _, 2, _ => rfl
 | 2, _, 0, _ => rfl
 | 2, _, 1, _ => rfl
 | 2, _, 2, _ => rfl
theorem vw_modify (l : List Tr) (i : Nat) (f : Tr → Tr) (hf : ∀ t, (f t).v0 = t.v0 ∧ (f t).v1 = t.v1 ∧ (f t).v2 = t.v2) (q : Nat) : vw (l.modify i f) q = vw l q := by
 unfold vw
 rw [List.getElem?_modify]
 cases l[q]? with
 | none => rfl
 | some t =>
  by_cases h : i = q
  ·simp [h, (hf t).1, (hf t).2.1, (hf t).2.2]
  ·simp [h]
theorem vw_link (M : MD) (t i u j : Nat) (f : Bool) (q : Nat) : vw (M.link t i u j f).tris q = vw M.tris q := by
 unfold MD.link
 dsimp only
 rw [vw_modify _ _ _ (fun x => setF_v x _ _), vw_modify _ _ _ (fun x => setF_v x _ _), vw_modify _ _ _ (fun x => setN_v x _ _), vw_modify _ _ _ (fun x => setN_v x _ _)]
theorem nb_modF (l : List Tr) (i j : Nat) (f : Bool) (q k : Nat) : nb (l.modify i (·.setF j f)) q k = nb l q k := by
 unfold nb
 rw [List.getElem?_modify]
 cases l[q]? with
 | none => rfl
 | some t => by_cases h : i = q <;> simp [h, setF_n]
theorem nb_modN (l : List Tr) {i j : Nat} (u : Int) {q k : Nat} (hj : j < 3) (hk : k < 3) : nb (l.modify i (·.setN j u)) q k = if q = i ∧ k = j then (nb l q k).map (fun _ => u) else nb l q k := by
 unfold nb
 rw [List.getElem?_modify]
 cases l[q]? with
 | none => simp
 | some t =>
  by_cases h : i = q
  ·subst h
   by_cases h2 : k = j
   ·subst h2; simp [setN_n t u hk hk]
   ·simp [setN_n t u hj hk, h2]
  ·have h' : ¬ q = i := fun e => h e.symm
   simp [h, h']
theorem nb_link (M : MD) {t i u j : Nat} (f : Bool) {q k : Nat} (hi : i < 3) (hj : j < 3) (hk : k < 3) : nb (M.link t i u j f).tris q k = if q = u ∧ k = j then (nb M.tris q k).map (fun _ => (t : Int)) else if q = t ∧ k = i then (nb M.tris q k).map (fun _ => (u : Int)) else nb M.tris q k := by
 unfold MD.link
 dsimp only
 rw [nb_modF, nb_modF, nb_modN _ _ hj hk, nb_modN _ _ hi hk]
 by_cases h1 : q = u ∧ k = j
 ·rw [if_pos h1, if_pos h1]
  by_cases h2 : q = t ∧ k = i
  ·rw [if_pos h2]; cases nb M.tris q k <;> rfl
  ·rw [if_neg h2]
 ·rw [if_neg h1, if_neg h1]
theorem vw_make (M : MD) (a b c : Int) (hf : ∀ k, k ∈ M.free → 0 ≤ k ∧ k < M.tris.length) (q : Nat) : vw (M.make a b c).tris q = if q = M.nextN.toNat then some (a, b, c) else vw M.tris q := by
 unfold vw MD.make MD.nextN
 dsimp only
 cases h : M.free.getLast? with
 | none =>
  dsimp only
  rw [List.getElem?_append]
  by_cases h1 : q < M.tris.length
  ·rw [if_pos h1, if_neg (by simp; omega)]
  ·rw [if_neg h1]
   by_cases h2 : q = M.tris.length
   ·subst h2; simp [Tr.new]
   ·rw [List.getElem?_eq_none (by simp; omega), if_neg (by simpa using h2), List.getElem?_eq_none (by omega)]
 | some k =>
  dsimp only
  have hk := hf k (List.mem_of_getLast? h)
  rw [List.getElem?_set]
  by_cases h2 : k.toNat = q
  ·rw [if_pos h2, if_pos h2.symm, if_pos (by omega)]; rfl
  ·rw [if_neg h2, if_neg (fun e => h2 e.symm)]
theorem nb_make (M : MD) (a b c : Int) (q j : Nat) (hq : q ≠ M.nextN.toNat) : nb (M.make a b c).tris q j = nb M.tris q j := by
 unfold nb MD.make
 unfold MD.nextN at hq
 dsimp only
 cases h : M.free.getLast? with
 | none =>
  rw [h] at hq
  dsimp only at hq ⊢
  rw [List.getElem?_append]
  by_cases h1 : q < M.tris.length
  ·rw [if_pos h1]
  ·rw [if_neg h1, List.getElem?_eq_none (by simp at hq ⊢; omega), List.getElem?_eq_none (by omega)]
 | some k =>
  rw [h] at hq
  dsimp only at hq ⊢
  rw [List.getElem?_set, if_neg (fun e => hq e.symm)]
end Go.Proofs.Ytbanlhlggkdanaa
namespace Go.Proofs.Ytbanlhlggkdanaa
open Go.RowKit
def kv (v : Int × Int × Int) (k : Nat) : Int × Int := (at3 v.1 v.2.1 v.2.2 ((k + 1) % 3), at3 v.1 v.2.1 v.2.2 ((k + 2) % 3))
structure GB (T0 : MD) (L0 : MapO) : Prop where
 fr : ∀ k, k ∈ T0.free → 0 ≤ k ∧ k < T0.tris.length
 frr : ∀ k v, k ∈ T0.free → vw T0.tris k.toNat = some v → ¬ rv v
 fn : T0.free.Nodup
 kn : (L0.map (·.1)).Nodup
 ed : ∀ e, e ∈ L0 → 0 ≤ e.1.1 ∧ 0 ≤ e.1.2 ∧ 0 ≤ e.2.1.1 ∧ 0 ≤ e.2.1.2 ∧ e.2.1.2 < 3 ∧ ∃ v, vw T0.tris e.2.1.1.toNat = some v ∧ rv v ∧ kv v e.2.1.2.toNat = e.1
 gone : ∀ q v, vw T0.tris q = some v → ¬ rv v → (q : Int) ∈ T0.free
 uq : ∀ q v k q' v' k', vw T0.tris q = some v → rv v → k < 3 → vw T0.tris q' = some v' → rv v' → k' < 3 → kv v k = kv v' k' → q = q' ∧ k = k'
structure GI (T0 : MD) (L0 P : MapO) (s : BS) : Prop where
 pts : s.M.pts = T0.pts
 fr : ∀ k, k ∈ s.M.free → 0 ≤ k ∧ k < s.M.tris.length
 frr : ∀ k v, k ∈ s.M.free → vw s.M.tris k.toNat = some v → ¬ rv v
 fn : s.M.free.Nodup
 sub : ∀ e, e ∈ P → e ∈ L0
 rl : ∀ q v, rv v → (vw s.M.tris q = some v ↔ vw T0.tris q = some v)
 kn : (s.L.map (·.1)).Nodup
 mp : ∀ a b, 0 ≤ a → 0 ≤ b → mget (a, b) s.L = if (a, b) ∈ P.map (·.1) then none else mget (a, b) L0
 gm : ∀ e, e ∈ s.L → ¬ (0 ≤ e.1.1 ∧ 0 ≤ e.1.2) → 0 ≤ e.2.1.2 ∧ e.2.1.2 < 3 ∧ ∀ v, vw s.M.tris e.2.1.1.toNat = some v → ¬ rv v
 nr : ∀ q v k, vw T0.tris q = some v → rv v → k < 3 → (¬ kv v k ∈ P.map (·.1) → nb s.M.tris q k = nb T0.tris q k) ∧ (kv v k ∈ P.map (·.1) → ∃ u : Nat, nb s.M.tris q k = some (u : Int) ∧ vw s.M.tris u = some ((kv v k).2, (kv v k).1, -1) ∧ ¬ (u : Int) ∈ s.M.free)
 gh : ∀ q v, vw s.M.tris q = some v → ¬ rv v → (q : Int) ∈ s.M.free ∨ ∃ e, e ∈ P ∧ v = (e.1.2, e.1.1, -1) ∧ nb s.M.tris e.2.1.1.toNat e.2.1.2.toNat = some (q : Int)
theorem vw_nb {l : List Tr} {q k : Nat} {v : Int × Int × Int} (h : vw l q = some v) : ∃ x, nb l q k = some x := by
 unfold vw at h; unfold nb
 cases hq : l[q]? with
 | none => rw [hq] at h; cases h
 | some t => exact ⟨_, rfl⟩
theorem vw_lt {l : List Tr} {q : Nat} {v : Int × Int × Int} (h : vw l q = some v) : q < l.length := by
 unfold vw at h
 rcases Nat.lt_or_ge q l.length with h1 | h1
 ·exact h1
 ·rw [List.getElem?_eq_none h1] at h; cases h
theorem joinG {F : MapI} {u : Nat} {v0 v1 v2 : Int} {s : BS} {i : Nat} (hi : i < 3) (hk : ¬ (0 ≤ at3 v0 v1 v2 ((i + 1) % 3) ∧ 0 ≤ at3 v0 v1 v2 ((i + 2) % 3))) (kn : (s.L.map (·.1)).Nodup)
  (gm : ∀ e, e ∈ s.L → ¬ (0 ≤ e.1.1 ∧ 0 ≤ e.1.2) → 0 ≤ e.2.1.2 ∧ e.2.1.2 < 3 ∧ ∀ v, vw s.M.tris e.2.1.1.toNat = some v → ¬ rv v) (hu : ∀ v, vw s.M.tris u = some v → ¬ rv v) :
  (∀ q, vw (joinE F u v0 v1 v2 s i).M.tris q = vw s.M.tris q) ∧ (joinE F u v0 v1 v2 s i).M.free = s.M.free ∧ (joinE F u v0 v1 v2 s i).M.pts = s.M.pts ∧ (joinE F u v0 v1 v2 s i).M.tris.length = s.M.tris.length ∧
  (((joinE F u v0 v1 v2 s i).L).map (·.1)).Nodup ∧ (∀ a b, 0 ≤ a → 0 ≤ b → mget (a, b) (joinE F u v0 v1 v2 s i).L = mget (a, b) s.L) ∧
  (∀ e, e ∈ (joinE F u v0 v1 v2 s i).L → ¬ (0 ≤ e.1.1 ∧ 0 ≤ e.1.2) → 0 ≤ e.2.1.2 ∧ e.2.1.2 < 3 ∧ ∀ v, vw (joinE F u v0 v1 v2 s i).M.tris e.2.1.1.toNat = some v → ¬ rv v) ∧
  (∀ q v k, vw s.M.tris q = some v → rv v → k < 3 → nb (joinE F u v0 v1 v2 s i).M.tris q k = nb s.M.tris q k) := by
 unfold joinE
 cases hg : mget (at3 v0 v1 v2 ((i + 2) % 3), at3 v0 v1 v2 ((i + 1) % 3)) s.L with
 | none =>
  dsimp only
  refine ⟨fun _ => rfl, rfl, rfl, rfl, mput_keys kn, fun a b ha hb => ?_, fun e he hn => ?_, fun _ _ _ _ _ _ => rfl⟩
  ·rw [mget_mput, if_neg]
   intro q
   rw [Prod.mk.injEq] at q
   exact hk ⟨q.1 ▸ ha, q.2 ▸ hb⟩
  ·rcases mput_mem he with q | q
   ·rw [q]
    dsimp only
    exact ⟨Int.natCast_nonneg i, by omega, fun v hv => hu v (by simpa using hv)⟩
   ·exact gm e q hn
 | some x =>
  dsimp only
  obtain ⟨e, he1, he2, he3⟩ := mget_mem hg
  obtain ⟨g1, g2, g3⟩ := gm e he1 (by rw [he2]; exact fun q => hk ⟨q.2, q.1⟩)
  rw [he3] at g1 g2 g3
  refine ⟨fun q => vw_link .., rfl, rfl, link_len .., mdel_keys kn, fun a b ha hb => ?_, fun e he hn => ?_, fun q v k hq hv hk3 => ?_⟩
  ·rw [mget_mdel_ne]
   intro q
   rw [Prod.mk.injEq] at q
   exact hk ⟨q.2 ▸ hb, q.1 ▸ ha⟩
  ·have := gm e (mdel_mem he) hn
   exact ⟨this.1, this.2.1, fun v hv => this.2.2 v (by rw [vw_link] at hv; exact hv)⟩
  ·rw [nb_link _ _ hi (by omega) hk3, if_neg, if_neg]
   ·rintro ⟨rfl, _⟩; exact hu v hq hv
   ·rintro ⟨rfl, _⟩; exact g3 v hq hv
theorem make_len_ge (M : MD) (a b c : Int) : M.tris.length ≤ (M.make a b c).tris.length := by
 unfold MD.make
 dsimp only
 split <;> simp
theorem next_or {M : MD} (fr : ∀ k, k ∈ M.free → 0 ≤ k ∧ k < M.tris.length) : (M.nextN ∈ M.free ∧ 0 ≤ M.nextN ∧ (∀ k, k ∈ M.free → k = M.nextN ∨ k ∈ M.free.dropLast)) ∨ (M.free = [] ∧ M.nextN = M.tris.length) := by
 unfold MD.nextN
 cases h : M.free.getLast? with
 | none => exact .inr ⟨List.getLast?_eq_none_iff.1 h, rfl⟩
 | some k =>
  have hm := List.mem_of_getLast? h
  refine .inl ⟨hm, (fr k hm).1, fun j hj => ?_⟩
  have hne : M.free ≠ [] := by intro e; rw [e] at hm; cases hm
  rw [← List.dropLast_concat_getLast hne] at hj
  rcases List.mem_append.1 hj with q | q
  ·exact .inr q
  ·rw [List.mem_singleton] at q
   rw [List.getLast?_eq_some_getLast hne] at h
   exact .inl (q.trans (Option.some.inj h))
theorem next_drop {M : MD} (fn : M.free.Nodup) : ¬ M.nextN ∈ M.free.dropLast ∨ M.free = [] := by
 by_cases hne : M.free = []
 ·exact .inr hne
 ·refine .inl ?_
  unfold MD.nextN
  rw [List.getLast?_eq_some_getLast hne]
  dsimp only
  rw [← List.dropLast_concat_getLast hne, List.nodup_append] at fn
  intro q
  exact fn.2.2 _ q _ (List.mem_singleton.2 rfl) rfl
theorem GI.step {T0 : MD} {L0 P : MapO} {s : BS} {F : MapI} (hB : GB T0 L0) (h : GI T0 L0 P s) {e : (Int × Int) × (Int × Int) × Nat} (he : e ∈ L0) (hn : ¬ e.1 ∈ P.map (·.1)) : GI T0 L0 (P ++ [e]) (stepG F s e) := by
 obtain ⟨⟨a, b⟩, ⟨t9, k9⟩, bo⟩ := e
 obtain ⟨ha, hb, ht, hk0, hk3, ve, hv1, hv2, hv3⟩ := hB.ed _ he
 dsimp only at ha hb ht hk0 hk3 hv1 hv2 hv3 hn
 have hkk : k9.toNat < 3 := by omega
 have hmg : mget (a, b) L0 = some (t9, k9) := mget_of_mem hB.kn he
 have hu0 : ∀ v, vw s.M.tris s.M.nextN.toNat = some v → ¬ rv v := fun v hv => by
  rcases next_or h.fr with ⟨q, _, _⟩ | ⟨_, q⟩
  ·exact h.frr _ v q hv
  ·have := vw_lt hv
   omega
 have hg : ¬ rv (b, a, -1) := fun q => absurd (show (0 : Int) ≤ -1 from q.2.2) (by decide)
 have w0 := vw_make s.M b a (-1) h.fr
 have hlen0 := make_len_ge s.M b a (-1)
 have n0 : ∀ q v k, vw s.M.tris q = some v → rv v → nb (s.M.make b a (-1)).tris q k = nb s.M.tris q k := fun q v k hq hv => nb_make _ _ _ _ _ _ (fun e : q = s.M.nextN.toNat => hu0 v (e ▸ hq) hv)
 have hreal0 : ∀ q v, vw s.M.tris q = some v → rv v → vw (s.M.make b a (-1)).tris q = some v := fun q v hq hv => by
  rw [w0, if_neg (fun e : q = s.M.nextN.toNat => hu0 v (e ▸ hq) hv)]; exact hq
 generalize hS0 : (⟨s.M.make b a (-1), s.L, s.c⟩ : BS) = s0
 have e0 : s0.M = s.M.make b a (-1) := by rw [← hS0]
 have l0 : s0.L = s.L := by rw [← hS0]
 have f0 : s0.M.free = s.M.free.dropLast := by rw [e0]; rfl
 have p0 : s0.M.pts = s.M.pts := by rw [e0]; rfl
 rw [← e0] at w0 hlen0 n0 hreal0
 have gm0 : ∀ e, e ∈ s0.L → ¬ (0 ≤ e.1.1 ∧ 0 ≤ e.1.2) → 0 ≤ e.2.1.2 ∧ e.2.1.2 < 3 ∧ ∀ v, vw s0.M.tris e.2.1.1.toNat = some v → ¬ rv v := fun e' he' hn' => by
  obtain ⟨q1, q2, q3⟩ := h.gm e' (l0 ▸ he') hn'
  refine ⟨q1, q2, fun v hv => ?_⟩
  rw [w0] at hv
  split at hv
  ·cases hv; exact hg
  ·exact q3 v hv
 have u0 : ∀ v, vw s0.M.tris s.M.nextN.toNat = some v → ¬ rv v := fun v hv => by
  rw [w0, if_pos rfl] at hv; cases hv; exact hg
 obtain ⟨w1, f1, p1, ln1, kn1, mp1, gm1, n1⟩ := joinG (F := F) (u := s.M.nextN.toNat) (v0 := b) (v1 := a) (v2 := -1) (s := s0) (i := 0) (by decide) (fun q => absurd (show (0 : Int) ≤ -1 from q.2) (by decide)) (by rw [l0]; exact h.kn) gm0 u0
 have hst : stepG F s ((a, b), (t9, k9), bo) = joinE F s.M.nextN.toNat b a (-1) (joinE F s.M.nextN.toNat b a (-1) (joinE F s.M.nextN.toNat b a (-1) s0 0) 1) 2 := by rw [← hS0]; rfl
 rw [hst]
 generalize joinE F s.M.nextN.toNat b a (-1) s0 0 = s1 at *
 obtain ⟨w2, f2, p2, ln2, kn2, mp2, gm2, n2⟩ := joinG (F := F) (u := s.M.nextN.toNat) (v0 := b) (v1 := a) (v2 := -1) (s := s1) (i := 1) (by decide) (fun q => absurd (show (0 : Int) ≤ -1 from q.1) (by decide)) kn1 gm1 (fun v hv => u0 v (by rw [← w1]; exact hv))
 generalize joinE F s.M.nextN.toNat b a (-1) s1 1 = s2 at *
 have hg2 : mget (a, b) s2.L = some (t9, k9) := by rw [mp2 a b ha hb, mp1 a b ha hb, l0, h.mp a b ha hb, if_neg hn, hmg]
 have h3 : joinE F s.M.nextN.toNat b a (-1) s2 2 = ⟨s2.M.link s.M.nextN.toNat 2 t9.toNat k9.toNat (flt F b a), mdel (a, b) s2.L, s2.c⟩ := by
  unfold joinE
  show (match mget (a, b) s2.L with | some x => _ | none => _) = _
  rw [hg2]
  rfl
 rw [h3]
 clear h3 hst
 have wS : ∀ q, vw (s2.M.link s.M.nextN.toNat 2 t9.toNat k9.toNat (flt F b a)).tris q = if q = s.M.nextN.toNat then some (b, a, -1) else vw s.M.tris q := fun q => by rw [vw_link, w2, w1, w0]
 have hrs : ∀ q v, vw T0.tris q = some v → rv v → vw s.M.tris q = some v := fun q v hq hv => (h.rl q v hv).2 hq
 have hne : ∀ q v, vw s.M.tris q = some v → rv v → q ≠ s.M.nextN.toNat := fun q v hq hv e => hu0 v (e ▸ hq) hv
 have nS : ∀ q v k, vw s.M.tris q = some v → rv v → k < 3 → nb (s2.M.link s.M.nextN.toNat 2 t9.toNat k9.toNat (flt F b a)).tris q k = if q = t9.toNat ∧ k = k9.toNat then some ((s.M.nextN.toNat : Nat) : Int) else nb s.M.tris q k := fun q v k hq hv hk => by
  have z1 : nb s2.M.tris q k = nb s.M.tris q k := by
   rw [n2 q v k (by rw [w1]; exact hreal0 q v hq hv) hv hk, n1 q v k (hreal0 q v hq hv) hv hk, n0 q v k hq hv]
  rw [nb_link _ _ (by decide) hkk hk, z1]
  obtain ⟨x, hx⟩ := vw_nb (k := k) hq
  by_cases q1 : q = t9.toNat ∧ k = k9.toNat
  ·rw [if_pos q1, if_pos q1, hx]; rfl
  ·rw [if_neg q1, if_neg q1, if_neg (fun q2 => hne q v hq hv q2.1)]
 have fS : (s2.M.link s.M.nextN.toNat 2 t9.toNat k9.toNat (flt F b a)).free = s.M.free.dropLast := by
  show s2.M.free = _
  rw [f2, f1, f0]
 have lS : s.M.tris.length ≤ (s2.M.link s.M.nextN.toNat 2 t9.toNat k9.toNat (flt F b a)).tris.length := by rw [link_len, ln2, ln1]; exact hlen0
 have ufr : ¬ ((s.M.nextN.toNat : Nat) : Int) ∈ s.M.free.dropLast := by
  rcases next_or h.fr with ⟨_, q0, _⟩ | ⟨q, _⟩
  ·rw [Int.toNat_of_nonneg q0]
   rcases next_drop h.fn with q | q
   ·exact q
   ·rw [q]; simp
  ·rw [q]; simp
 have hvt := hrs _ _ hv1 hv2
 refine ⟨?_, fun k hk => ?_, fun k v hk hv => ?_, ?_, fun e' he' => ?_, fun q v hv => ?_, mdel_keys kn2, fun a' b' ha' hb' => ?_, fun e' he' hn' => ?_, fun q v k hq hv hk => ⟨fun hk' => ?_, fun hk' => ?_⟩, fun q v hq hv => ?_⟩
 ·show s2.M.pts = _
  rw [p2, p1, p0, h.pts]
 ·dsimp only at hk ⊢
  rw [fS] at hk
  have := h.fr k (List.dropLast_subset _ hk)
  omega
 ·dsimp only at hk hv
  rw [fS] at hk
  rw [wS] at hv
  split at hv
  ·cases hv; exact hg
  ·exact h.frr k v (List.dropLast_subset _ hk) hv
 ·dsimp only
  rw [fS]
  exact h.fn.sublist (List.dropLast_sublist _)
 ·rcases List.mem_append.1 he' with q | q
  ·exact h.sub e' q
  ·rw [List.mem_singleton] at q; rw [q]; exact he
 ·dsimp only
  rw [wS]
  by_cases q1 : q = s.M.nextN.toNat
  ·rw [if_pos q1]
   constructor
   ·intro q2; cases q2; exact absurd hv hg
   ·intro q2
    have := (h.rl q v hv).2 q2
    exact absurd hv (hu0 v (q1 ▸ this))
  ·rw [if_neg q1]; exact h.rl q v hv
 ·dsimp only
  by_cases q1 : (a', b') = (a, b)
  ·rw [q1, mget_mdel_eq kn2, if_pos]
   simp
  ·rw [mget_mdel_ne q1, mp2 a' b' ha' hb', mp1 a' b' ha' hb', l0, h.mp a' b' ha' hb']
   by_cases q2 : (a', b') ∈ P.map (·.1)
   ·rw [if_pos q2, if_pos (by rw [List.map_append]; exact List.mem_append_left _ q2)]
   ·rw [if_neg q2, if_neg]
    rw [List.map_append, List.mem_append]
    rintro (q3 | q3)
    ·exact q2 q3
    ·rw [List.map_cons, List.map_nil, List.mem_singleton] at q3; exact q1 q3
 ·obtain ⟨q1, q2, q3⟩ := gm2 e' (mdel_mem he') hn'
  exact ⟨q1, q2, fun v hv => q3 v (by dsimp only at hv; rw [vw_link] at hv; exact hv)⟩
 ·dsimp only
  have hk1 : ¬ kv v k ∈ P.map (·.1) := fun q1 => hk' (by rw [List.map_append]; exact List.mem_append_left _ q1)
  rw [nS q v k (hrs q v hq hv) hv hk, if_neg]
  ·exact (h.nr q v k hq hv hk).1 hk1
  ·rintro ⟨rfl, rfl⟩
   rw [hv1] at hq
   cases hq
   exact hk' (by rw [List.map_append, hv3]; exact List.mem_append_right _ (.head _))
 ·dsimp only
  rw [nS q v k (hrs q v hq hv) hv hk]
  by_cases q1 : q = t9.toNat ∧ k = k9.toNat
  ·obtain ⟨rfl, rfl⟩ := q1
   rw [hv1] at hq
   cases hq
   refine ⟨s.M.nextN.toNat, if_pos ⟨rfl, rfl⟩, ?_, ?_⟩
   ·rw [wS, if_pos rfl, hv3]
   ·rw [fS]; exact ufr
  ·rw [if_neg q1]
   have hk1 : kv v k ∈ P.map (·.1) := by
    rw [List.map_append, List.mem_append] at hk'
    rcases hk' with q2 | q2
    ·exact q2
    ·rw [List.map_cons, List.map_nil, List.mem_singleton] at q2
     exact absurd (hB.uq q v k _ ve _ hq hv hk hv1 hv2 hkk (q2.trans hv3.symm)) q1
   obtain ⟨u', y1, y2, y3⟩ := (h.nr q v k hq hv hk).2 hk1
   refine ⟨u', y1, ?_, ?_⟩
   ·rw [wS, if_neg]
    ·exact y2
    ·intro q2
     rcases next_or h.fr with ⟨z1, z2, _⟩ | ⟨_, z1⟩
     ·exact y3 (by rw [q2, Int.toNat_of_nonneg z2]; exact z1)
     ·have := vw_lt y2
      omega
   ·rw [fS]; exact fun q2 => y3 (List.dropLast_subset _ q2)
 ·dsimp only at hq ⊢
  rw [wS] at hq
  by_cases q1 : q = s.M.nextN.toNat
  ·rw [if_pos q1] at hq
   cases hq
   refine .inr ⟨_, List.mem_append_right _ (.head _), rfl, ?_⟩
   dsimp only
   rw [nS _ ve _ hvt hv2 hkk, if_pos ⟨rfl, rfl⟩, q1]
  ·rw [if_neg q1] at hq
   rcases h.gh q v hq hv with q2 | ⟨e', z1, z2, z3⟩
   ·rw [fS]
    rcases next_or h.fr with ⟨_, y2, y3⟩ | ⟨y1, _⟩
    ·rcases y3 _ q2 with y4 | y4
     ·exact absurd (by omega) q1
     ·exact .inl y4
    ·rw [y1] at q2; cases q2
   ·refine .inr ⟨e', List.mem_append_left _ z1, z2, ?_⟩
    obtain ⟨_, _, x1, x2, x3, v', x4, x5, x6⟩ := hB.ed e' (h.sub e' z1)
    rw [nS _ v' _ (hrs _ _ x4 x5) x5 (by omega), if_neg]
    ·exact z3
    ·rintro ⟨y1, y2⟩
     rw [y1, hv1] at x4
     cases x4
     rw [y2, hv3] at x6
     exact hn (by rw [x6]; exact List.mem_map.2 ⟨e', z1, rfl⟩)
theorem GI.all {T0 : MD} {L0 : MapO} {F : MapI} (hB : GB T0 L0) : ∀ (r P : MapO) (s : BS), GI T0 L0 P s → (∀ e, e ∈ r → e ∈ L0) → ((P ++ r).map (·.1)).Nodup → GI T0 L0 (P ++ r) (r.foldl (stepG F) s)
 | [], P, s, h, _, _ => by rw [List.append_nil]; exact h
 | e :: r, P, s, h, hs, hn => by
  have h1 := GI.step (F := F) hB h (hs e (.head _)) (by
   intro q
   rw [List.map_append, List.nodup_append] at hn
   exact hn.2.2 _ q _ (List.mem_map.2 ⟨e, .head _, rfl⟩) rfl)
  have := GI.all (F := F) hB r (P ++ [e]) (stepG F s e) h1 (fun x hx => hs x (.tail _ hx)) (by rw [List.append_assoc]; exact hn)
  rw [List.append_assoc] at this
  exact this
end Go.Proofs.Ytbanlhlggkdanaa
namespace Go.Proofs.Ytbanlhlggkdanaa
open Go.RowKit
def hasV (t : Tr) (v : Int) : Prop := t.v0 = v ∨ t.v1 = v ∨ t.v2 = v
instance (t : Tr) (v : Int) : Decidable (hasV t v) := inferInstanceAs (Decidable (_ ∨ _))
theorem tm3 {k j : Nat} (hk : k < 3) (hj : j < 3) : ((k : Int) + (j : Int)).tmod 3 = (((k + j) % 3 : Nat) : Int) := by
 match k, hk, j, hj with
 | 0, _, 0, _ => rfl
 | 0, _, 1, _ => rfl
 | 0, _, 2, _ => rfl
 | 1, _, 0, _ => rfl
 | 1, _, 1, _ => rfl
 | 1, _, 2, _ => rfl
 | 2, _, 0, _ => rfl
 | 2, _, 1, _ => rfl
 | 2, _, 2, _ => rfl
theorem v_get {t : Tr} {j : Nat} (hj : j < 3) : (#[.int .i64 t.v0, .int .i64 t.v1, .int .i64 t.v2, .int .i64 t.n0, .int .i64 t.n1, .int .i64 t.n2, .bool t.f0, .bool t.f1, .bool t.f2] : Array Value)[0 + ((j : Nat) : Int).toNat * 1]? = some (.int .i64 (t.v j)) := by
 match j, hj with
 | 0, _ => rfl
 | 1, _ => rfl
 | 2, _ => rfl
theorem sgn_pos {n : Int} : 0 < sgn n ↔ 0 < n := by have := sgn_cases n; omega
end Go.Proofs.Ytbanlhlggkdanaa
namespace Go.Proofs.Ytbanlhlggkdanaa
open Go.RowKit
theorem ent_60 : Enter Try.prog 60 = true := by kernel_rfl
theorem vl_get {t : Tr} {k : Nat} (hk : k < 3) : lget ([.int .i64 t.v0, .int .i64 t.v1, .int .i64 t.v2] : List Value) (((k : Nat) : Int).toNat * 1) = some (.int .i64 (t.v k)) := by
 match k, hk with
 | 0, _ => rfl
 | 1, _ => rfl
 | 2, _ => rfl
def Tr.fl (t : Tr) (i : Nat) : Bool := if i = 0 then t.f0 else if i = 1 then t.f1 else t.f2
theorem na_get {t : Tr} {k : Nat} (hk : k < 3) : (#[.int .i64 t.v0, .int .i64 t.v1, .int .i64 t.v2, .int .i64 t.n0, .int .i64 t.n1, .int .i64 t.n2, .bool t.f0, .bool t.f1, .bool t.f2] : Array Value)[0 + 3 + ((k : Nat) : Int).toNat * 1]? = some (.int .i64 (t.n k)) := by
 match k, hk with
 | 0, _ => rfl
 | 1, _ => rfl
 | 2, _ => rfl
theorem fa_get {t : Tr} {k : Nat} (hk : k < 3) : (#[.int .i64 t.v0, .int .i64 t.v1, .int .i64 t.v2, .int .i64 t.n0, .int .i64 t.n1, .int .i64 t.n2, .bool t.f0, .bool t.f1, .bool t.f2] : Array Value)[0 + 6 + ((k : Nat) : Int).toNat * 1]? = some (.bool (t.fl k)) := by
 match k, hk with
 | 0, _ => rfl
 | 1, _ => rfl
 | 2, _ => rfl
def cntv (t : Tr) (x : Int) : Nat → Int
 | 0 => 0
 | k + 1 => cntv t x k + if t.v k = x then 1 else 0
theorem cntv_b (t : Tr) (x : Int) : ∀ k : Nat, 0 ≤ cntv t x k ∧ cntv t x k ≤ k
 | 0 => ⟨Int.le_refl _, Int.le_refl _⟩
 | k + 1 => by
  have := cntv_b t x k
  unfold cntv
  split <;> omega
def madeB (pts : List (Int × Int)) (t : Tr) : Bool :=
 if 0 < cntv t (-2) 3 then decide (cntv t (-2) 3 = 3) else if 0 < cntv t (-1) 3 then decide (cntv t (-1) 3 = 1)
 else decide (0 < A2 (ptAt pts t.v0).1 (ptAt pts t.v0).2 (ptAt pts t.v1).1 (ptAt pts t.v1).2 (ptAt pts t.v2).1 (ptAt pts t.v2).2)
def vOk (n : Nat) (t : Tr) : Prop := ∀ k, k < 3 → t.v k = -1 ∨ t.v k = -2 ∨ (0 ≤ t.v k ∧ t.v k < n)
theorem vOk_real {n : Nat} {t : Tr} (h : vOk n t) (h2 : ¬ 0 < cntv t (-2) 3) (h1 : ¬ 0 < cntv t (-1) 3) : t.ok n := by
 have k0 := h 0 (by decide)
 have k1 := h 1 (by decide)
 have k2 := h 2 (by decide)
 simp only [cntv] at h1 h2
 have e0 : t.v 0 = t.v0 := rfl
 have e1 : t.v 1 = t.v1 := rfl
 have e2 : t.v 2 = t.v2 := rfl
 rw [e0, e1, e2] at h1 h2
 rw [e0] at k0; rw [e1] at k1; rw [e2] at k2
 unfold Tr.ok
 refine ⟨?_, ?_, ?_⟩
 all_goals (repeat' split at h1) <;> (repeat' split at h2) <;> omega
set_option maxRecDepth 100000 in
set_option maxHeartbeats 4000000 in
theorem made_c {B : Nat} {h : Mh} {pts : List (Int × Int)} {tris : List Tr} {t : Tr} (hP : ∀ j, j < pts.length → P2 (pts.getD j (0, 0)).1 (pts.getD j (0, 0)).2) (hv : vOk pts.length t) : Tri Try.prog 60 [.pointer (some ⟨B, 0, none⟩), .agg t.cells.toArray] [] (meshFs B h pts tris) (Ret0 (.bool (madeB pts t))) := by
 refine Tri_of (N := 63) Try.func60 rfl ent_60 rfl rfl ?_
 intro w0 S0 T0
 show CJ _ _ _ [(0, _), (1, _)] _ _
 refine CJ_seq ?_
 refine CJ_reg ?_
 refine LJ_box (cs := #[_, _, _, _, _, _, _, _, _]) rfl rfl rfl rfl ?_
 intro b1
 refine LJ_y rfl rfl (YJ_assign rfl) ?_
 refine LJ_nil ?_
 refine QJ_then ?_
 refine CJ_seq ?_
 refine CJ_reg ?_
 refine LJ_y rfl rfl (YJ_assign rfl) ?_
 refine LJ_y rfl rfl (YJ_assign rfl) ?_
 refine LJ_nil ?_
 refine QJ_then ?_
 refine CJ_seq ?_
 refine CJ_seq ?_
 refine CJ_reg ?_
 refine LJ_y rfl rfl (YJ_fieldOwn rfl fld_37_0 rfl) ?_
 refine LJ_y rfl rfl (YJ_loadN (vs := [_, _, _]) rfl tyi_34 m0 rfl rfl) ?_
 refine LJ_y rfl rfl (YJ_move rfl) ?_
 refine LJ_nil ?_
 refine QJ_then ?_
 refine CJ_block ?_
 refine CJ_loopF (F := fun (i : Nat × Int × Int) => ⟨[(0, .pointer (some ⟨B, 0, none⟩)), (3, .pointer (some ⟨b1, 0, none⟩)), (5, .int .i64 i.2.1), (6, .int .i64 i.2.2), (10, .agg #[.int .i64 t.v0, .int .i64 t.v1, .int .i64 t.v2]), (11, .int .i64 (i.1 : Nat))], [cellsR b1 #[.int .i64 t.v0, .int .i64 t.v1, .int .i64 t.v2, .int .i64 t.n0, .int .i64 t.n1, .int .i64 t.n2, .bool t.f0, .bool t.f1, .bool t.f2] 37], []⟩) (I := fun (i : Nat × Int × Int) => i.1 ≤ 3 ∧ i.2.1 = cntv t (-1) i.1 ∧ i.2.2 = cntv t (-2) i.1) (m := fun (i : Nat × Int × Int) => 3 - i.1) (0, 0, 0) (μr := []) ⟨Nat.zero_le _, rfl, rfl⟩ (And.intro rfl (And.intro rfl (And.intro rfl (And.intro rfl (And.intro rfl (And.intro rfl (trivial))))))) (permI [] rfl) (fun _ h => nomatch h) ?_
 rintro ⟨k, gh, go⟩ ⟨hk, hgh, hgo⟩
 try dsimp only at hk
 try dsimp only at hgh
 try dsimp only at hgo
 show CJ _ _ _ [(0, .pointer (some ⟨B, 0, none⟩)), (3, .pointer (some ⟨b1, 0, none⟩)), (5, .int .i64 gh), (6, .int .i64 go), (10, .agg #[.int .i64 t.v0, .int .i64 t.v1, .int .i64 t.v2]), (11, .int .i64 (k : Nat))] (cellsR b1 #[.int .i64 t.v0, .int .i64 t.v1, .int .i64 t.v2, .int .i64 t.n0, .int .i64 t.n1, .int .i64 t.n2, .bool t.f0, .bool t.f1, .bool t.f2] 37 :: _) _
 refine CJ_seq ?_
 refine CJ_reg ?_
 refine LJ_y rfl rfl (YJ_bin rfl rfl rfl) ?_
 refine LJ_nil ?_
 refine QJ_then ?_
 refine CJ_seq ?_
 refine CJ_cond rfl (fun h12 => ?_) (fun h12 => ?_)
 ·simp only [decide_eq_true_eq] at h12
  have hk3 : k < 3 := by omega
  have hb1 := cntv_b t (-1) k
  have hb2 := cntv_b t (-2) k
  refine CJ_skip ?_
  refine QJ_then ?_
  refine CJ_seq ?_
  refine CJ_block ?_
  refine CJ_seq ?_
  refine CJ_reg ?_
  refine LJ_y rfl rfl (YJ_index1 rfl rfl arrt_34 tyi_3 (by omega) (by omega) (vl_get hk3)) ?_
  refine LJ_y rfl rfl (YJ_assign rfl) ?_
  refine LJ_nil ?_
  refine QJ_then ?_
  refine CJ_seq ?_
  refine CJ_reg ?_
  refine LJ_y rfl rfl (YJ_move rfl) ?_
  refine LJ_nil ?_
  refine QJ_then ?_
  refine CJ_block ?_
  refine CJ_seq ?_
  refine CJ_reg ?_
  refine LJ_y rfl rfl (YJ_bin rfl rfl rfl) ?_
  refine LJ_y rfl rfl (YJ_assign rfl) ?_
  refine LJ_nil ?_
  refine QJ_then ?_
  refine CJ_cond rfl (fun h15 => ?_) (fun h15 => ?_)
  ·simp only [decide_eq_true_eq] at h15
   refine CJ_reg ?_
   refine LJ_y rfl rfl (YJ_move rfl) ?_
   refine LJ_y rfl rfl (YJ_bin rfl rfl (iop_add (by omega))) ?_
   refine LJ_y rfl rfl (YJ_assign rfl) ?_
   refine LJ_nil ?_
   refine QJ_in_normal ?_
   refine QJ_in_normal ?_
   refine QJ_then ?_
   refine CJ_reg ?_
   refine LJ_y rfl rfl (YJ_bin rfl rfl (iop_add (by omega))) ?_
   refine LJ_y rfl rfl (YJ_move rfl) ?_
   refine LJ_nil ?_
   refine QJ_roundF (F := fun (i : Nat × Int × Int) => ⟨[(0, .pointer (some ⟨B, 0, none⟩)), (3, .pointer (some ⟨b1, 0, none⟩)), (5, .int .i64 i.2.1), (6, .int .i64 i.2.2), (10, .agg #[.int .i64 t.v0, .int .i64 t.v1, .int .i64 t.v2]), (11, .int .i64 (i.1 : Nat))], [cellsR b1 #[.int .i64 t.v0, .int .i64 t.v1, .int .i64 t.v2, .int .i64 t.n0, .int .i64 t.n1, .int .i64 t.n2, .bool t.f0, .bool t.f1, .bool t.f2] 37], []⟩) (I := fun (i : Nat × Int × Int) => i.1 ≤ 3 ∧ i.2.1 = cntv t (-1) i.1 ∧ i.2.2 = cntv t (-2) i.1) (m := fun (i : Nat × Int × Int) => 3 - i.1) (i := (k, gh, go)) ((k + 1, gh + 1, go)) (μd := []) ⟨by omega, by dsimp only; unfold cntv; rw [if_pos h15, hgh], by dsimp only; unfold cntv; rw [if_neg (by omega), hgo, Int.add_zero]⟩ (by dsimp only; omega) (And.intro rfl (And.intro rfl (And.intro rfl (And.intro rfl (And.intro rfl (And.intro rfl (trivial))))))) (permI [] rfl) (fun _ h => nomatch h) (fun _ h => h)
  ·simp only [decide_eq_false_iff_not] at h15
   refine CJ_seq ?_
   refine CJ_reg ?_
   refine LJ_y rfl rfl (YJ_bin rfl rfl rfl) ?_
   refine LJ_y rfl rfl (YJ_assign rfl) ?_
   refine LJ_nil ?_
   refine QJ_then ?_
   refine CJ_cond rfl (fun h19 => ?_) (fun h19 => ?_)
   ·simp only [decide_eq_true_eq] at h19
    refine CJ_reg ?_
    refine LJ_y rfl rfl (YJ_move rfl) ?_
    refine LJ_y rfl rfl (YJ_bin rfl rfl (iop_add (by omega))) ?_
    refine LJ_y rfl rfl (YJ_assign rfl) ?_
    refine LJ_nil ?_
    refine QJ_in_normal ?_
    refine QJ_in_normal ?_
    refine QJ_then ?_
    refine CJ_reg ?_
    refine LJ_y rfl rfl (YJ_bin rfl rfl (iop_add (by omega))) ?_
    refine LJ_y rfl rfl (YJ_move rfl) ?_
    refine LJ_nil ?_
    refine QJ_roundF (F := fun (i : Nat × Int × Int) => ⟨[(0, .pointer (some ⟨B, 0, none⟩)), (3, .pointer (some ⟨b1, 0, none⟩)), (5, .int .i64 i.2.1), (6, .int .i64 i.2.2), (10, .agg #[.int .i64 t.v0, .int .i64 t.v1, .int .i64 t.v2]), (11, .int .i64 (i.1 : Nat))], [cellsR b1 #[.int .i64 t.v0, .int .i64 t.v1, .int .i64 t.v2, .int .i64 t.n0, .int .i64 t.n1, .int .i64 t.n2, .bool t.f0, .bool t.f1, .bool t.f2] 37], []⟩) (I := fun (i : Nat × Int × Int) => i.1 ≤ 3 ∧ i.2.1 = cntv t (-1) i.1 ∧ i.2.2 = cntv t (-2) i.1) (m := fun (i : Nat × Int × Int) => 3 - i.1) (i := (k, gh, go)) ((k + 1, gh, go + 1)) (μd := []) ⟨by omega, by dsimp only; unfold cntv; rw [if_neg h15, hgh, Int.add_zero], by dsimp only; unfold cntv; rw [if_pos h19, hgo]⟩ (by dsimp only; omega) (And.intro rfl (And.intro rfl (And.intro rfl (And.intro rfl (And.intro rfl (And.intro rfl (trivial))))))) (permI [] rfl) (fun _ h => nomatch h) (fun _ h => h)
   ·simp only [decide_eq_false_iff_not] at h19
    refine CJ_skip ?_
    refine QJ_in_normal ?_
    refine QJ_in_normal ?_
    refine QJ_then ?_
    refine CJ_reg ?_
    refine LJ_y rfl rfl (YJ_bin rfl rfl (iop_add (by omega))) ?_
    refine LJ_y rfl rfl (YJ_move rfl) ?_
    refine LJ_nil ?_
    refine QJ_roundF (F := fun (i : Nat × Int × Int) => ⟨[(0, .pointer (some ⟨B, 0, none⟩)), (3, .pointer (some ⟨b1, 0, none⟩)), (5, .int .i64 i.2.1), (6, .int .i64 i.2.2), (10, .agg #[.int .i64 t.v0, .int .i64 t.v1, .int .i64 t.v2]), (11, .int .i64 (i.1 : Nat))], [cellsR b1 #[.int .i64 t.v0, .int .i64 t.v1, .int .i64 t.v2, .int .i64 t.n0, .int .i64 t.n1, .int .i64 t.n2, .bool t.f0, .bool t.f1, .bool t.f2] 37], []⟩) (I := fun (i : Nat × Int × Int) => i.1 ≤ 3 ∧ i.2.1 = cntv t (-1) i.1 ∧ i.2.2 = cntv t (-2) i.1) (m := fun (i : Nat × Int × Int) => 3 - i.1) (i := (k, gh, go)) ((k + 1, gh, go)) (μd := []) ⟨by omega, by dsimp only; unfold cntv; rw [if_neg h15, hgh, Int.add_zero], by dsimp only; unfold cntv; rw [if_neg h19, hgo, Int.add_zero]⟩ (by dsimp only; omega) (And.intro rfl (And.intro rfl (And.intro rfl (And.intro rfl (And.intro rfl (And.intro rfl (trivial))))))) (permI [] rfl) (fun _ h => nomatch h) (fun _ h => h)
 ·simp only [decide_eq_false_iff_not] at h12
  have hk3 : 3 = k := by omega
  subst hk3
  subst hgh
  subst hgo
  refine CJ_exit ?_
  refine QJ_then_exit ?_
  refine QJ_then_exit ?_
  refine QJ_in_exit ?_
  refine QJ_then ?_
  refine CJ_seq ?_
  refine CJ_block ?_
  refine CJ_seq ?_
  refine CJ_reg ?_
  refine LJ_y rfl rfl (YJ_move rfl) ?_
  refine LJ_y rfl rfl (YJ_bin rfl rfl rfl) ?_
  refine LJ_y rfl rfl (YJ_assign rfl) ?_
  refine LJ_nil ?_
  refine QJ_then ?_
  refine CJ_cond rfl (fun h24 => ?_) (fun h24 => ?_)
  ·simp only [decide_eq_true_eq] at h24
   refine CJ_seq ?_
   refine CJ_reg ?_
   refine LJ_y rfl rfl (YJ_move rfl) ?_
   refine LJ_y rfl rfl (YJ_bin rfl rfl rfl) ?_
   refine LJ_y rfl rfl (YJ_assign rfl) ?_
   refine LJ_nil ?_
   refine QJ_then ?_
   refine CJ_ret ?_
   refine QJ_in_ret ?_
   refine QJ_then_ret ?_
   refine QJ_fin (.inl rfl) (μ' := []) (μr := _) (φ' := []) (res_tmp rfl rfl) (List.Perm.refl _) (fun _ h => nomatch h) ?_
   exact ⟨congrArg Value.bool (by unfold madeB; rw [if_pos h24]), rfl, rfl⟩
  ·simp only [decide_eq_false_iff_not] at h24
   refine CJ_seq ?_
   refine CJ_reg ?_
   refine LJ_y rfl rfl (YJ_move rfl) ?_
   refine LJ_y rfl rfl (YJ_bin rfl rfl rfl) ?_
   refine LJ_y rfl rfl (YJ_assign rfl) ?_
   refine LJ_nil ?_
   refine QJ_then ?_
   refine CJ_cond rfl (fun h29 => ?_) (fun h29 => ?_)
   ·simp only [decide_eq_true_eq] at h29
    refine CJ_seq ?_
    refine CJ_reg ?_
    refine LJ_y rfl rfl (YJ_move rfl) ?_
    refine LJ_y rfl rfl (YJ_bin rfl rfl rfl) ?_
    refine LJ_y rfl rfl (YJ_assign rfl) ?_
    refine LJ_nil ?_
    refine QJ_then ?_
    refine CJ_ret ?_
    refine QJ_in_ret ?_
    refine QJ_then_ret ?_
    refine QJ_fin (.inl rfl) (μ' := []) (μr := _) (φ' := []) (res_tmp rfl rfl) (List.Perm.refl _) (fun _ h => nomatch h) ?_
    exact ⟨congrArg Value.bool (by unfold madeB; rw [if_neg h24, if_pos h29]), rfl, rfl⟩
   ·simp only [decide_eq_false_iff_not] at h29
    obtain ⟨⟨hv0, hw0⟩, ⟨hv1, hw1⟩, ⟨hv2, hw2⟩⟩ := vOk_real hv h24 h29
    refine CJ_skip ?_
    refine QJ_in_normal ?_
    refine QJ_then ?_
    refine CJ_seq ?_
    refine CJ_regD mix (by kernel_rfl) (fun _ _ _ _ _ h => h) _ _ (fun _ h => h) (fun _ h => h) ?_
    refine AJ_y 0 rfl (by kernel_rfl) (by kernel_rfl) rfl rfl (YJ_move rfl) ?_
    refine AJ_y 1 rfl (by kernel_rfl) (by kernel_rfl) rfl rfl (YJ_nilCheck rfl) ?_
    refine AJ_y 2 rfl (by kernel_rfl) (by kernel_rfl) rfl rfl (YJ_fieldOwn rfl fld_57_0 rfl) ?_
    refine AJ_y 3 rfl (by kernel_rfl) (by kernel_rfl) rfl rfl (YJ_loadFactP (A := some ⟨B, 0, none⟩) (j := 0) rfl rfl tyi_26 m0 rfl) ?_
    refine AJ_y 4 rfl (by kernel_rfl) (by kernel_rfl) rfl rfl (YJ_fieldOwn rfl fld_37_0 rfl) ?_
    refine AJ_y 5 rfl (by kernel_rfl) (by kernel_rfl) rfl rfl (YJ_ixArr rfl rfl arrt_34 (by omega) (by omega) rfl) ?_
    refine AJ_y 6 rfl (by kernel_rfl) (by kernel_rfl) rfl rfl (YJ_loadL rfl tyi_3 m0 rfl) ?_
    refine AJ_y 7 rfl (by kernel_rfl) (by kernel_rfl) rfl rfl (YJ_ixFact rfl rfl elt_26 m1 (by decide) (by omega) (by omega) (by omega)) ?_
    refine AJ_y 8 rfl (by kernel_rfl) (by kernel_rfl) rfl rfl (YJ_loadFactN (vs := [_, _]) (xs := ptCells pts) rfl tyi_23 m1 (ptCells_get (i := (t.v0).toNat) (by omega)) rfl) ?_
    refine AJ_y 9 rfl (by kernel_rfl) (by kernel_rfl) rfl rfl (YJ_move rfl) ?_
    refine AJ_y 10 rfl (by kernel_rfl) (by kernel_rfl) rfl rfl (YJ_nilCheck rfl) ?_
    refine AJ_y 11 rfl (by kernel_rfl) (by kernel_rfl) rfl rfl (YJ_fieldOwn rfl fld_57_0 rfl) ?_
    refine AJ_y 12 rfl (by kernel_rfl) (by kernel_rfl) rfl rfl (YJ_loadFactP (A := some ⟨B, 0, none⟩) (j := 0) rfl rfl tyi_26 m0 rfl) ?_
    refine AJ_y 13 rfl (by kernel_rfl) (by kernel_rfl) rfl rfl (YJ_fieldOwn rfl fld_37_0 rfl) ?_
    refine AJ_y 14 rfl (by kernel_rfl) (by kernel_rfl) rfl rfl (YJ_ixArr rfl rfl arrt_34 (by omega) (by omega) rfl) ?_
    refine AJ_y 15 rfl (by kernel_rfl) (by kernel_rfl) rfl rfl (YJ_loadL rfl tyi_3 m0 rfl) ?_
    refine AJ_y 16 rfl (by kernel_rfl) (by kernel_rfl) rfl rfl (YJ_ixFact rfl rfl elt_26 m1 (by decide) (by omega) (by omega) (by omega)) ?_
    refine AJ_y 17 rfl (by kernel_rfl) (by kernel_rfl) rfl rfl (YJ_loadFactN (vs := [_, _]) (xs := ptCells pts) rfl tyi_23 m1 (ptCells_get (i := (t.v1).toNat) (by omega)) rfl) ?_
    refine AJ_y 18 rfl (by kernel_rfl) (by kernel_rfl) rfl rfl (YJ_move rfl) ?_
    refine AJ_y 19 rfl (by kernel_rfl) (by kernel_rfl) rfl rfl (YJ_nilCheck rfl) ?_
    refine AJ_y 20 rfl (by kernel_rfl) (by kernel_rfl) rfl rfl (YJ_fieldOwn rfl fld_57_0 rfl) ?_
    refine AJ_y 21 rfl (by kernel_rfl) (by kernel_rfl) rfl rfl (YJ_loadFactP (A := some ⟨B, 0, none⟩) (j := 0) rfl rfl tyi_26 m0 rfl) ?_
    refine AJ_y 22 rfl (by kernel_rfl) (by kernel_rfl) rfl rfl (YJ_fieldOwn rfl fld_37_0 rfl) ?_
    refine AJ_y 23 rfl (by kernel_rfl) (by kernel_rfl) rfl rfl (YJ_ixArr rfl rfl arrt_34 (by omega) (by omega) rfl) ?_
    refine AJ_y 24 rfl (by kernel_rfl) (by kernel_rfl) rfl rfl (YJ_loadL rfl tyi_3 m0 rfl) ?_
    refine AJ_y 25 rfl (by kernel_rfl) (by kernel_rfl) rfl rfl (YJ_ixFact rfl rfl elt_26 m1 (by decide) (by omega) (by omega) (by omega)) ?_
    refine AJ_y 26 rfl (by kernel_rfl) (by kernel_rfl) rfl rfl (YJ_loadFactN (vs := [_, _]) (xs := ptCells pts) rfl tyi_23 m1 (ptCells_get (i := (t.v2).toNat) (by omega)) rfl) ?_
    refine AJ_call0 27 rfl (by kernel_rfl) rfl rfl rfl rfl rfl (orient_c (hP t.v0.toNat (by omega)) (hP t.v1.toNat (by omega)) (hP t.v2.toNat (by omega))) (fun _ h => nomatch h) ?_
    refine AJ_y 28 rfl (by kernel_rfl) (by kernel_rfl) rfl rfl (YJ_bin rfl rfl rfl) ?_
    refine AJ_y 29 rfl (by kernel_rfl) (by kernel_rfl) rfl rfl (YJ_assign rfl) ?_
    refine AJ_done (by kernel_rfl) ?_
    refine QJ_then ?_
    refine CJ_ret ?_
    refine QJ_fin (.inl rfl) (μ' := []) (μr := _) (φ' := []) (res_tmp rfl rfl) (List.Perm.refl _) (fun _ h => nomatch h) ?_
    exact ⟨congrArg Value.bool (by unfold madeB; rw [if_neg h24, if_neg h29]; exact decide_eq_decide.2 sgn_pos), rfl, rfl⟩
end Go.Proofs.Ytbanlhlggkdanaa
namespace Go.Proofs.Ytbanlhlggkdanaa
open Go.RowKit
theorem ent_61 : Enter Try.prog 61 = true := by kernel_rfl
def besF (o t : Tr) (n : Int) (i : Nat) (f : Bool) (j : Nat) : Bool := if o.v ((j + 1) % 3) = t.v ((i + 2) % 3) ∧ o.v ((j + 2) % 3) = t.v ((i + 1) % 3) then (decide (o.n j = n) && (o.fl j == t.fl i)) else f
def besI (tris : List Tr) (t : Tr) (n : Int) (i : Nat) : Bool :=
 if t.n i < 0 ∨ tris.length ≤ t.n i ∨ (t.fl i = true ∧ (t.v ((i + 1) % 3) < 0 ∨ t.v ((i + 2) % 3) < 0)) then false
 else match tris[(t.n i).toNat]? with
  | some o => [0, 1, 2].foldl (besF o t n i) false
  | none => false
def besB (tris : List Tr) (t : Tr) (n : Int) : Bool := besI tris t n 0 && (besI tris t n 1 && besI tris t n 2)
theorem besB_false {tris : List Tr} {t : Tr} {n : Int} {k : Nat} (hk : k < 3) (h : besI tris t n k = false) : besB tris t n = false := by
 unfold besB
 match k, hk with
 | 0, _ => rw [h]; rfl
 | 1, _ => rw [h]; simp
 | 2, _ => rw [h]; simp
theorem b_three {o t : Tr} {n : Int} {i k : Nat} (hk : k < 3) : ([0, 1, 2].take (k + 1)).foldl (besF o t n i) false = besF o t n i (([0, 1, 2].take k).foldl (besF o t n i) false) k := by
 match k, hk with
 | 0, _ => rfl
 | 1, _ => rfl
 | 2, _ => rfl
set_option maxRecDepth 100000 in
set_option maxHeartbeats 8000000 in
theorem beside_c {B : Nat} {h : Mh} {pts : List (Int × Int)} {tris : List Tr} {t : Tr} {n : Nat} (ht : tris[n]? = some t) (hlen : tris.length ≤ 1073741824) : Tri Try.prog 61 [.pointer (some ⟨B, 0, none⟩), .int .i64 (n : Nat)] [] (meshFs B h pts tris) (Ret0 (.bool (besB tris t (n : Nat)))) := by
 refine Tri_of (N := 112) Try.func61 rfl ent_61 rfl rfl ?_
 intro w0 S0 T0
 show CJ _ _ _ [(0, _), (1, _)] _ _
 have hnl := (List.getElem?_eq_some_iff.1 ht).1
 refine CJ_seq ?_
 refine CJ_reg ?_
 refine LJ_y rfl rfl (YJ_assign rfl) ?_
 refine LJ_nil ?_
 refine QJ_then ?_
 refine CJ_seq ?_
 refine CJ_reg ?_
 refine LJ_y rfl rfl (YJ_move rfl) ?_
 refine LJ_y rfl rfl (YJ_nilCheck rfl) ?_
 refine LJ_y rfl rfl (YJ_fieldOwn rfl fld_57_1 rfl) ?_
 refine LJ_y rfl rfl (YJ_loadFactP (A := some ⟨B, 0, none⟩) (j := 1) rfl rfl tyi_54 m0 rfl) ?_
 refine LJ_y rfl rfl (YJ_move rfl) ?_
 refine LJ_y rfl rfl (YJ_ixFact rfl rfl elt_54 m2 (by decide) (by omega) (by omega) (by omega)) ?_
 refine LJ_y rfl rfl (YJ_loadFactN (vs := [.int .i64 t.v0, .int .i64 t.v1, .int .i64 t.v2, .int .i64 t.n0, .int .i64 t.n1, .int .i64 t.n2, .bool t.f0, .bool t.f1, .bool t.f2]) (xs := trCells tris) rfl tyi_37 m2 (trCells_row (cast_idx ht)) rfl) ?_
 refine LJ_alloc (cs := #[_, _, _, _, _, _, _, _, _]) rfl rfl zer_37 rfl ?_
 intro b1
 refine LJ_store (cs' := #[_, _, _, _, _, _, _, _, _]) (μ' := [_]) 0 rfl rfl rfl rfl tyi_37 rfl (Nat.le_of_ble_eq_true rfl) rfl (wr_all rfl) rfl ?_
 refine LJ_nil ?_
 refine QJ_then ?_
 refine CJ_seq ?_
 refine CJ_seq ?_
 refine CJ_reg ?_
 refine LJ_y rfl rfl (YJ_fieldOwn rfl fld_37_1 rfl) ?_
 refine LJ_y rfl rfl (YJ_loadN (vs := [_, _, _]) rfl tyi_34 m0 rfl rfl) ?_
 refine LJ_y rfl rfl (YJ_move rfl) ?_
 refine LJ_nil ?_
 refine QJ_then ?_
 refine CJ_block ?_
 refine CJ_loopF (F := fun (i : Nat) => ⟨[(0, .pointer (some ⟨B, 0, none⟩)), (1, .int .i64 (n : Nat)), (5, .pointer (some ⟨b1, 0, none⟩)), (21, .agg #[.int .i64 t.n0, .int .i64 t.n1, .int .i64 t.n2]), (22, .int .i64 (i : Nat))], [cellsR b1 #[.int .i64 t.v0, .int .i64 t.v1, .int .i64 t.v2, .int .i64 t.n0, .int .i64 t.n1, .int .i64 t.n2, .bool t.f0, .bool t.f1, .bool t.f2] 37], []⟩) (I := fun (i : Nat) => i ≤ 3 ∧ ∀ q, q < i → besI tris t (n : Nat) q = true) (m := fun (i : Nat) => 3 - i) 0 (μr := []) ⟨Nat.zero_le _, fun _ h => absurd h (Nat.not_lt_zero _)⟩ (And.intro rfl (And.intro rfl (And.intro rfl (And.intro rfl (And.intro rfl (trivial)))))) (permI [] rfl) (fun _ h => nomatch h) ?_
 rintro k ⟨hk, hbs⟩
 try dsimp only at hk
 try dsimp only at hbs
 show CJ _ _ _ [(0, .pointer (some ⟨B, 0, none⟩)), (1, .int .i64 (n : Nat)), (5, .pointer (some ⟨b1, 0, none⟩)), (21, .agg #[.int .i64 t.n0, .int .i64 t.n1, .int .i64 t.n2]), (22, .int .i64 (k : Nat))] (cellsR b1 #[.int .i64 t.v0, .int .i64 t.v1, .int .i64 t.v2, .int .i64 t.n0, .int .i64 t.n1, .int .i64 t.n2, .bool t.f0, .bool t.f1, .bool t.f2] 37 :: _) _
 refine CJ_seq ?_
 refine CJ_reg ?_
 refine LJ_y rfl rfl (YJ_bin rfl rfl rfl) ?_
 refine LJ_nil ?_
 refine QJ_then ?_
 refine CJ_seq ?_
 refine CJ_cond rfl (fun h23 => ?_) (fun h23 => ?_)
 ·simp only [decide_eq_true_eq] at h23
  have hk3 : k < 3 := by omega
  refine CJ_skip ?_
  refine QJ_then ?_
  refine CJ_seq ?_
  refine CJ_block ?_
  refine CJ_seq ?_
  refine CJ_reg ?_
  refine LJ_y rfl rfl (YJ_move rfl) ?_
  refine LJ_y rfl rfl (YJ_index1 rfl rfl arrt_34 tyi_3 (by omega) (by omega) (n_get hk3)) ?_
  refine LJ_y rfl rfl (YJ_assign rfl) ?_
  refine LJ_y rfl rfl (YJ_assign rfl) ?_
  refine LJ_nil ?_
  refine QJ_then ?_
  refine CJ_seq ?_
  refine CJ_regD mix (by kernel_rfl) (fun _ _ _ _ _ h => h) _ _ (fun _ h => h) (fun _ h => h) ?_
  refine AJ_y 0 rfl (by kernel_rfl) (by kernel_rfl) rfl rfl (YJ_move rfl) ?_
  refine AJ_y 1 rfl (by kernel_rfl) (by kernel_rfl) rfl rfl (YJ_bin rfl rfl (iop_add (by omega))) ?_
  refine AJ_y 2 rfl (by kernel_rfl) (by kernel_rfl) rfl rfl (YJ_rem rfl rfl (by first | decide | omega)) ?_
  refine AJ_val (v := .int .i64 (((k + 1) % 3 : Nat) : Int)) (congrArg (Value.int .i64) (tm3 (j := 1) hk3 (by decide))) ?_
  refine AJ_y 3 rfl (by kernel_rfl) (by kernel_rfl) rfl rfl (YJ_fieldOwn rfl fld_37_0 rfl) ?_
  refine AJ_y 4 rfl (by kernel_rfl) (by kernel_rfl) rfl rfl (YJ_ixArr rfl rfl arrt_34 (by omega) (by omega) rfl) ?_
  refine AJ_y 5 rfl (by kernel_rfl) (by kernel_rfl) rfl rfl (YJ_load1 rfl tyi_3 m0 (v_get (t := t) (Nat.mod_lt (k + 1) (by decide)))) ?_
  refine AJ_y 6 rfl (by kernel_rfl) (by kernel_rfl) rfl rfl (YJ_move rfl) ?_
  refine AJ_y 7 rfl (by kernel_rfl) (by kernel_rfl) rfl rfl (YJ_bin rfl rfl (iop_add (by omega))) ?_
  refine AJ_y 8 rfl (by kernel_rfl) (by kernel_rfl) rfl rfl (YJ_rem rfl rfl (by first | decide | omega)) ?_
  refine AJ_val (v := .int .i64 (((k + 2) % 3 : Nat) : Int)) (congrArg (Value.int .i64) (tm3 (j := 2) hk3 (by decide))) ?_
  refine AJ_y 9 rfl (by kernel_rfl) (by kernel_rfl) rfl rfl (YJ_fieldOwn rfl fld_37_0 rfl) ?_
  refine AJ_y 10 rfl (by kernel_rfl) (by kernel_rfl) rfl rfl (YJ_ixArr rfl rfl arrt_34 (by omega) (by omega) rfl) ?_
  refine AJ_y 11 rfl (by kernel_rfl) (by kernel_rfl) rfl rfl (YJ_load1 rfl tyi_3 m0 (v_get (t := t) (Nat.mod_lt (k + 2) (by decide)))) ?_
  refine AJ_y 12 rfl (by kernel_rfl) (by kernel_rfl) rfl rfl (YJ_assign rfl) ?_
  refine AJ_y 13 rfl (by kernel_rfl) (by kernel_rfl) rfl rfl (YJ_assign rfl) ?_
  refine AJ_done (by kernel_rfl) ?_
  refine QJ_then ?_
  refine CJ_seq ?_
  refine CJ_seq ?_
  refine CJ_reg ?_
  refine LJ_y rfl rfl (YJ_move rfl) ?_
  refine LJ_y rfl rfl (YJ_bin rfl rfl rfl) ?_
  refine LJ_y rfl rfl (YJ_move rfl) ?_
  refine LJ_boolC (fun h40 => ?_) (fun h40 => ?_)
  ·simp only [decide_eq_true_eq] at h40
   refine LJ_skip rfl rfl ?_
   refine LJ_skip rfl rfl ?_
   refine LJ_skip rfl rfl ?_
   refine LJ_skip rfl rfl ?_
   refine LJ_skip rfl rfl ?_
   refine LJ_skip rfl rfl ?_
   refine LJ_skip rfl rfl ?_
   refine LJ_y rfl rfl (YJ_pickT rfl rfl) ?_
   refine LJ_y rfl rfl (YJ_move rfl) ?_
   refine LJ_skip rfl rfl ?_
   refine LJ_skip rfl rfl ?_
   refine LJ_skip rfl rfl ?_
   refine LJ_skip rfl rfl ?_
   refine LJ_skip rfl rfl ?_
   refine LJ_skip rfl rfl ?_
   refine LJ_skip rfl rfl ?_
   refine LJ_skip rfl rfl ?_
   refine LJ_skip rfl rfl ?_
   refine LJ_skip rfl rfl ?_
   refine LJ_skip rfl rfl ?_
   refine LJ_skip rfl rfl ?_
   refine LJ_y rfl rfl (YJ_pickT rfl rfl) ?_
   refine LJ_nil ?_
   refine QJ_then ?_
   refine CJ_condT rfl ?_
   refine CJ_seq ?_
   refine CJ_reg ?_
   refine LJ_y rfl rfl (YJ_assign rfl) ?_
   refine LJ_nil ?_
   refine QJ_then ?_
   refine CJ_ret ?_
   refine QJ_then_ret ?_
   refine QJ_in_ret ?_
   refine QJ_then_ret ?_
   refine QJ_then_ret ?_
   refine QJ_in_ret ?_
   refine QJ_then_ret ?_
   refine QJ_fin (.inl rfl) (μ' := []) (μr := _) (φ' := []) (res_tmp rfl rfl) (List.Perm.refl _) (fun _ h => nomatch h) ?_
   exact ⟨congrArg Value.bool (besB_false hk3 (by unfold besI; rw [if_pos (.inl h40)])).symm, rfl, rfl⟩
  ·simp only [decide_eq_false_iff_not] at h40
   refine LJ_y rfl rfl (YJ_move rfl) ?_
   refine LJ_y rfl rfl (YJ_move rfl) ?_
   refine LJ_y rfl rfl (YJ_nilCheck rfl) ?_
   refine LJ_y rfl rfl (YJ_fieldOwn rfl fld_57_1 rfl) ?_
   refine LJ_y rfl rfl (YJ_loadFactP (A := some ⟨B, 0, none⟩) (j := 1) rfl rfl tyi_54 m0 rfl) ?_
   refine LJ_y rfl rfl (YJ_len rfl ulen_54 rfl) ?_
   refine LJ_y rfl rfl (YJ_bin rfl rfl rfl) ?_
   refine LJ_y rfl rfl (YJ_pickF rfl rfl) ?_
   refine LJ_y rfl rfl (YJ_move rfl) ?_
   refine LJ_boolC (fun h49 => ?_) (fun h49 => ?_)
   ·simp only [decide_eq_true_eq] at h49
    refine LJ_skip rfl rfl ?_
    refine LJ_skip rfl rfl ?_
    refine LJ_skip rfl rfl ?_
    refine LJ_skip rfl rfl ?_
    refine LJ_skip rfl rfl ?_
    refine LJ_skip rfl rfl ?_
    refine LJ_skip rfl rfl ?_
    refine LJ_skip rfl rfl ?_
    refine LJ_skip rfl rfl ?_
    refine LJ_skip rfl rfl ?_
    refine LJ_skip rfl rfl ?_
    refine LJ_skip rfl rfl ?_
    refine LJ_y rfl rfl (YJ_pickT rfl rfl) ?_
    refine LJ_nil ?_
    refine QJ_then ?_
    refine CJ_condT rfl ?_
    refine CJ_seq ?_
    refine CJ_reg ?_
    refine LJ_y rfl rfl (YJ_assign rfl) ?_
    refine LJ_nil ?_
    refine QJ_then ?_
    refine CJ_ret ?_
    refine QJ_then_ret ?_
    refine QJ_in_ret ?_
    refine QJ_then_ret ?_
    refine QJ_then_ret ?_
    refine QJ_in_ret ?_
    refine QJ_then_ret ?_
    refine QJ_fin (.inl rfl) (μ' := []) (μr := _) (φ' := []) (res_tmp rfl rfl) (List.Perm.refl _) (fun _ h => nomatch h) ?_
    exact ⟨congrArg Value.bool (besB_false hk3 (by unfold besI; rw [if_pos (.inr (.inl h49))])).symm, rfl, rfl⟩
   ·simp only [decide_eq_false_iff_not] at h49
    refine LJ_y rfl rfl (YJ_move rfl) ?_
    refine LJ_y rfl rfl (YJ_fieldOwn rfl fld_37_2 rfl) ?_
    refine LJ_y rfl rfl (YJ_ixArr rfl rfl arrt_35 (by omega) (by omega) rfl) ?_
    refine LJ_y rfl rfl (YJ_load1 rfl tyi_4 m0 (fa_get (t := t) hk3)) ?_
    refine LJ_y rfl rfl (YJ_move rfl) ?_
    refine LJ_boolC (fun h54 => ?_) (fun h54 => ?_)
    ·skip
     refine LJ_y rfl rfl (YJ_move rfl) ?_
     refine LJ_y rfl rfl (YJ_bin rfl rfl rfl) ?_
     refine LJ_y rfl rfl (YJ_move rfl) ?_
     refine LJ_boolC (fun h57 => ?_) (fun h57 => ?_)
     ·simp only [decide_eq_true_eq] at h57
      refine LJ_skip rfl rfl ?_
      refine LJ_skip rfl rfl ?_
      refine LJ_y rfl rfl (YJ_pickT rfl rfl) ?_
      refine LJ_y rfl rfl (YJ_pickT rfl rfl) ?_
      refine LJ_y rfl rfl (YJ_pickF rfl rfl) ?_
      refine LJ_nil ?_
      refine QJ_then ?_
      refine CJ_condT rfl ?_
      refine CJ_seq ?_
      refine CJ_reg ?_
      refine LJ_y rfl rfl (YJ_assign rfl) ?_
      refine LJ_nil ?_
      refine QJ_then ?_
      refine CJ_ret ?_
      refine QJ_then_ret ?_
      refine QJ_in_ret ?_
      refine QJ_then_ret ?_
      refine QJ_then_ret ?_
      refine QJ_in_ret ?_
      refine QJ_then_ret ?_
      refine QJ_fin (.inl rfl) (μ' := []) (μr := _) (φ' := []) (res_tmp rfl rfl) (List.Perm.refl _) (fun _ h => nomatch h) ?_
      exact ⟨congrArg Value.bool (besB_false hk3 (by unfold besI; rw [if_pos (.inr (.inr ⟨h54, .inl h57⟩))])).symm, rfl, rfl⟩
     ·simp only [decide_eq_false_iff_not] at h57
      refine LJ_y rfl rfl (YJ_move rfl) ?_
      refine LJ_y rfl rfl (YJ_bin rfl rfl rfl) ?_
      refine LJ_y rfl rfl (YJ_pickF rfl rfl) ?_
      refine LJ_y rfl rfl (YJ_pickT rfl rfl) ?_
      refine LJ_y rfl rfl (YJ_pickF rfl rfl) ?_
      refine LJ_nil ?_
      refine QJ_then ?_
      refine CJ_cond rfl (fun h62 => ?_) (fun h62 => ?_)
      ·simp only [decide_eq_true_eq] at h62
       refine CJ_seq ?_
       refine CJ_reg ?_
       refine LJ_y rfl rfl (YJ_assign rfl) ?_
       refine LJ_nil ?_
       refine QJ_then ?_
       refine CJ_ret ?_
       refine QJ_then_ret ?_
       refine QJ_in_ret ?_
       refine QJ_then_ret ?_
       refine QJ_then_ret ?_
       refine QJ_in_ret ?_
       refine QJ_then_ret ?_
       refine QJ_fin (.inl rfl) (μ' := []) (μr := _) (φ' := []) (res_tmp rfl rfl) (List.Perm.refl _) (fun _ h => nomatch h) ?_
       exact ⟨congrArg Value.bool (besB_false hk3 (by unfold besI; rw [if_pos (.inr (.inr ⟨h54, .inr h62⟩))])).symm, rfl, rfl⟩
      ·simp only [decide_eq_false_iff_not] at h62
       have hneg : ¬ (t.n k < 0 ∨ tris.length ≤ t.n k ∨ (t.fl k = true ∧ (t.v ((k + 1) % 3) < 0 ∨ t.v ((k + 2) % 3) < 0))) := by
        rintro (q | q | ⟨q, q2⟩)
        ·omega
        ·omega
        ·rcases q2 with q2 | q2
         ·exact h57 q2
         ·exact h62 q2
       obtain ⟨o, ho⟩ := get_of_lt (tris := tris) (i := t.n k) (by omega) (by omega)
       refine CJ_skip ?_
       refine QJ_then ?_
       refine CJ_seq ?_
       refine CJ_reg ?_
       refine LJ_y rfl rfl (YJ_move rfl) ?_
       refine LJ_y rfl rfl (YJ_nilCheck rfl) ?_
       refine LJ_y rfl rfl (YJ_fieldOwn rfl fld_57_1 rfl) ?_
       refine LJ_y rfl rfl (YJ_loadFactP (A := some ⟨B, 0, none⟩) (j := 1) rfl rfl tyi_54 m0 rfl) ?_
       refine LJ_y rfl rfl (YJ_move rfl) ?_
       refine LJ_y rfl rfl (YJ_ixFact rfl rfl elt_54 m2 (by decide) (by omega) (by omega) (by omega)) ?_
       refine LJ_y rfl rfl (YJ_loadFactN (vs := [.int .i64 o.v0, .int .i64 o.v1, .int .i64 o.v2, .int .i64 o.n0, .int .i64 o.n1, .int .i64 o.n2, .bool o.f0, .bool o.f1, .bool o.f2]) (xs := trCells tris) rfl tyi_37 m2 (trCells_row ho) rfl) ?_
       refine LJ_alloc (cs := #[_, _, _, _, _, _, _, _, _]) rfl rfl zer_37 rfl ?_
       intro b2
       refine LJ_store (cs' := #[_, _, _, _, _, _, _, _, _]) (μ' := [_, _]) 0 rfl rfl rfl rfl tyi_37 rfl (Nat.le_of_ble_eq_true rfl) rfl (wr_all rfl) rfl ?_
       refine LJ_y rfl rfl (YJ_assign rfl) ?_
       refine LJ_nil ?_
       refine QJ_then ?_
       refine CJ_seq ?_
       refine CJ_seq ?_
       refine CJ_reg ?_
       refine LJ_y rfl rfl (YJ_move rfl) ?_
       refine LJ_nil ?_
       refine QJ_then ?_
       refine CJ_block ?_
       refine CJ_loopF (F := fun (i : Nat × Bool) => ⟨[(0, .pointer (some ⟨B, 0, none⟩)), (1, .int .i64 (n : Nat)), (5, .pointer (some ⟨b1, 0, none⟩)), (21, .agg #[.int .i64 t.n0, .int .i64 t.n1, .int .i64 t.n2]), (6, .int .i64 (k : Nat)), (8, .int .i64 (t.v ((k + 1) % 3))), (9, .int .i64 (t.v ((k + 2) % 3))), (10, .pointer (some ⟨b2, 0, none⟩)), (11, .bool i.2), (22, .int .i64 (k : Nat)), (70, .int .i64 (i.1 : Nat))], [cellsR b2 #[.int .i64 o.v0, .int .i64 o.v1, .int .i64 o.v2, .int .i64 o.n0, .int .i64 o.n1, .int .i64 o.n2, .bool o.f0, .bool o.f1, .bool o.f2] 37, cellsR b1 #[.int .i64 t.v0, .int .i64 t.v1, .int .i64 t.v2, .int .i64 t.n0, .int .i64 t.n1, .int .i64 t.n2, .bool t.f0, .bool t.f1, .bool t.f2] 37], []⟩) (I := fun (i : Nat × Bool) => i.1 ≤ 3 ∧ i.2 = ([0, 1, 2].take i.1).foldl (besF o t (n : Nat) k) false) (m := fun (i : Nat × Bool) => 3 - i.1) (0, false) (μr := []) ⟨Nat.zero_le _, rfl⟩ (And.intro rfl (And.intro rfl (And.intro rfl (And.intro rfl (And.intro rfl (And.intro rfl (And.intro rfl (And.intro rfl (And.intro rfl (And.intro rfl (And.intro rfl (trivial)))))))))))) (permI [] rfl) (fun _ h => nomatch h) ?_
       rintro ⟨j, fd⟩ ⟨hj, hfd⟩
       try dsimp only at hj
       try dsimp only at hfd
       show CJ _ _ _ [(0, .pointer (some ⟨B, 0, none⟩)), (1, .int .i64 (n : Nat)), (5, .pointer (some ⟨b1, 0, none⟩)), (21, .agg #[.int .i64 t.n0, .int .i64 t.n1, .int .i64 t.n2]), (6, .int .i64 (k : Nat)), (8, .int .i64 (t.v ((k + 1) % 3))), (9, .int .i64 (t.v ((k + 2) % 3))), (10, .pointer (some ⟨b2, 0, none⟩)), (11, .bool fd), (22, .int .i64 (k : Nat)), (70, .int .i64 (j : Nat))] (cellsR b2 #[.int .i64 o.v0, .int .i64 o.v1, .int .i64 o.v2, .int .i64 o.n0, .int .i64 o.n1, .int .i64 o.n2, .bool o.f0, .bool o.f1, .bool o.f2] 37 :: cellsR b1 #[.int .i64 t.v0, .int .i64 t.v1, .int .i64 t.v2, .int .i64 t.n0, .int .i64 t.n1, .int .i64 t.n2, .bool t.f0, .bool t.f1, .bool t.f2] 37 :: _) _
       refine CJ_seq ?_
       refine CJ_reg ?_
       refine LJ_y rfl rfl (YJ_bin rfl rfl rfl) ?_
       refine LJ_nil ?_
       refine QJ_then ?_
       refine CJ_seq ?_
       refine CJ_cond rfl (fun h71 => ?_) (fun h71 => ?_)
       ·simp only [decide_eq_true_eq] at h71
        have hj3 : j < 3 := by omega
        refine CJ_skip ?_
        refine QJ_then ?_
        refine CJ_seq ?_
        refine CJ_block ?_
        refine CJ_seq ?_
        refine CJ_reg ?_
        refine LJ_y rfl rfl (YJ_move rfl) ?_
        refine LJ_y rfl rfl (YJ_assign rfl) ?_
        refine LJ_nil ?_
        refine QJ_then ?_
        refine CJ_seq ?_
        refine CJ_reg ?_
        refine LJ_y rfl rfl (YJ_move rfl) ?_
        refine LJ_y rfl rfl (YJ_bin rfl rfl (iop_add (by omega))) ?_
        refine LJ_y rfl rfl (YJ_rem rfl rfl (by first | decide | omega)) ?_
        refine LJ_val (v := .int .i64 (((j + 1) % 3 : Nat) : Int)) (congrArg (Value.int .i64) (tm3 (j := 1) hj3 (by decide))) ?_
        refine LJ_y rfl rfl (YJ_fieldOwn rfl fld_37_0 rfl) ?_
        refine LJ_y rfl rfl (YJ_ixArr rfl rfl arrt_34 (by omega) (by omega) rfl) ?_
        refine LJ_y rfl rfl (YJ_load1 rfl tyi_3 m0 (v_get (t := o) (Nat.mod_lt (j + 1) (by decide)))) ?_
        refine LJ_y rfl rfl (YJ_move rfl) ?_
        refine LJ_y rfl rfl (YJ_bin rfl rfl rfl) ?_
        refine LJ_y rfl rfl (YJ_move rfl) ?_
        refine LJ_boolC (fun h81 => ?_) (fun h81 => ?_)
        ·simp only [decide_eq_true_eq] at h81
         refine LJ_y rfl rfl (YJ_move rfl) ?_
         refine LJ_y rfl rfl (YJ_bin rfl rfl (iop_add (by omega))) ?_
         refine LJ_y rfl rfl (YJ_rem rfl rfl (by first | decide | omega)) ?_
         refine LJ_val (v := .int .i64 (((j + 2) % 3 : Nat) : Int)) (congrArg (Value.int .i64) (tm3 (j := 2) hj3 (by decide))) ?_
         refine LJ_y rfl rfl (YJ_fieldOwn rfl fld_37_0 rfl) ?_
         refine LJ_y rfl rfl (YJ_ixArr rfl rfl arrt_34 (by omega) (by omega) rfl) ?_
         refine LJ_y rfl rfl (YJ_load1 rfl tyi_3 m0 (v_get (t := o) (Nat.mod_lt (j + 2) (by decide)))) ?_
         refine LJ_y rfl rfl (YJ_move rfl) ?_
         refine LJ_y rfl rfl (YJ_bin rfl rfl rfl) ?_
         refine LJ_y rfl rfl (YJ_pickT rfl rfl) ?_
         refine LJ_nil ?_
         refine QJ_then ?_
         refine CJ_cond rfl (fun h90 => ?_) (fun h90 => ?_)
         ·simp only [decide_eq_true_eq] at h90
          refine CJ_regD mix (by kernel_rfl) (fun _ _ _ _ _ h => h) _ _ (fun _ h => h) (fun _ h => h) ?_
          refine AJ_y 0 rfl (by kernel_rfl) (by kernel_rfl) rfl rfl (YJ_move rfl) ?_
          refine AJ_y 1 rfl (by kernel_rfl) (by kernel_rfl) rfl rfl (YJ_fieldOwn rfl fld_37_1 rfl) ?_
          refine AJ_y 2 rfl (by kernel_rfl) (by kernel_rfl) rfl rfl (YJ_ixArr rfl rfl arrt_34 (by omega) (by omega) rfl) ?_
          refine AJ_y 3 rfl (by kernel_rfl) (by kernel_rfl) rfl rfl (YJ_load1 rfl tyi_3 m0 (na_get (t := o) hj3)) ?_
          refine AJ_y 4 rfl (by kernel_rfl) (by kernel_rfl) rfl rfl (YJ_move rfl) ?_
          refine AJ_y 5 rfl (by kernel_rfl) (by kernel_rfl) rfl rfl (YJ_bin rfl rfl rfl) ?_
          refine AJ_y 6 rfl (by kernel_rfl) (by kernel_rfl) rfl rfl (YJ_move rfl) ?_
          refine AJ_boolC (fun h97 => ?_) (fun h97 => ?_)
          ·simp only [decide_eq_true_eq] at h97
           refine AJ_y 7 rfl (by kernel_rfl) (by kernel_rfl) rfl rfl (YJ_move rfl) ?_
           refine AJ_y 8 rfl (by kernel_rfl) (by kernel_rfl) rfl rfl (YJ_fieldOwn rfl fld_37_2 rfl) ?_
           refine AJ_y 9 rfl (by kernel_rfl) (by kernel_rfl) rfl rfl (YJ_ixArr rfl rfl arrt_35 (by omega) (by omega) rfl) ?_
           refine AJ_y 10 rfl (by kernel_rfl) (by kernel_rfl) rfl rfl (YJ_load1 rfl tyi_4 m0 (fa_get (t := o) hj3)) ?_
           refine AJ_y 11 rfl (by kernel_rfl) (by kernel_rfl) rfl rfl (YJ_move rfl) ?_
           refine AJ_y 12 rfl (by kernel_rfl) (by kernel_rfl) rfl rfl (YJ_fieldOwn rfl fld_37_2 rfl) ?_
           refine AJ_y 13 rfl (by kernel_rfl) (by kernel_rfl) rfl rfl (YJ_ixArr rfl rfl arrt_35 (by omega) (by omega) rfl) ?_
           refine AJ_y 14 rfl (by kernel_rfl) (by kernel_rfl) rfl rfl (YJ_load1 rfl tyi_4 m1 (fa_get (t := t) hk3)) ?_
           refine AJ_y 15 rfl (by kernel_rfl) (by kernel_rfl) rfl rfl (YJ_eqb rfl rfl ubool_4) ?_
           refine AJ_y 16 rfl (by kernel_rfl) (by kernel_rfl) rfl rfl (YJ_pickT rfl rfl) ?_
           refine AJ_y 17 rfl (by kernel_rfl) (by kernel_rfl) rfl rfl (YJ_assign rfl) ?_
           refine AJ_done (by kernel_rfl) ?_
           refine QJ_in_normal ?_
           refine QJ_then ?_
           refine CJ_reg ?_
           refine LJ_y rfl rfl (YJ_bin rfl rfl (iop_add (by omega))) ?_
           refine LJ_y rfl rfl (YJ_move rfl) ?_
           refine LJ_nil ?_
           refine QJ_roundF (F := fun (i : Nat × Bool) => ⟨[(0, .pointer (some ⟨B, 0, none⟩)), (1, .int .i64 (n : Nat)), (5, .pointer (some ⟨b1, 0, none⟩)), (21, .agg #[.int .i64 t.n0, .int .i64 t.n1, .int .i64 t.n2]), (6, .int .i64 (k : Nat)), (8, .int .i64 (t.v ((k + 1) % 3))), (9, .int .i64 (t.v ((k + 2) % 3))), (10, .pointer (some ⟨b2, 0, none⟩)), (11, .bool i.2), (22, .int .i64 (k : Nat)), (70, .int .i64 (i.1 : Nat))], [cellsR b2 #[.int .i64 o.v0, .int .i64 o.v1, .int .i64 o.v2, .int .i64 o.n0, .int .i64 o.n1, .int .i64 o.n2, .bool o.f0, .bool o.f1, .bool o.f2] 37, cellsR b1 #[.int .i64 t.v0, .int .i64 t.v1, .int .i64 t.v2, .int .i64 t.n0, .int .i64 t.n1, .int .i64 t.n2, .bool t.f0, .bool t.f1, .bool t.f2] 37], []⟩) (I := fun (i : Nat × Bool) => i.1 ≤ 3 ∧ i.2 = ([0, 1, 2].take i.1).foldl (besF o t (n : Nat) k) false) (m := fun (i : Nat × Bool) => 3 - i.1) (i := (j, fd)) ((j + 1, (o.fl j == t.fl k))) (μd := []) ⟨by omega, by dsimp only; rw [b_three hj3]; unfold besF; rw [if_pos ⟨h81, h90⟩, decide_eq_true h97, Bool.true_and]⟩ (by dsimp only; omega) (And.intro rfl (And.intro rfl (And.intro rfl (And.intro rfl (And.intro rfl (And.intro rfl (And.intro rfl (And.intro rfl (And.intro rfl (And.intro rfl (And.intro rfl (trivial)))))))))))) (permI [] rfl) (fun _ h => nomatch h) (fun _ h => h)
          ·simp only [decide_eq_false_iff_not] at h97
           refine AJ_skip 7 rfl (by kernel_rfl) (by kernel_rfl) rfl rfl ?_
           refine AJ_skip 8 rfl (by kernel_rfl) (by kernel_rfl) rfl rfl ?_
           refine AJ_skip 9 rfl (by kernel_rfl) (by kernel_rfl) rfl rfl ?_
           refine AJ_skip 10 rfl (by kernel_rfl) (by kernel_rfl) rfl rfl ?_
           refine AJ_skip 11 rfl (by kernel_rfl) (by kernel_rfl) rfl rfl ?_
           refine AJ_skip 12 rfl (by kernel_rfl) (by kernel_rfl) rfl rfl ?_
           refine AJ_skip 13 rfl (by kernel_rfl) (by kernel_rfl) rfl rfl ?_
           refine AJ_skip 14 rfl (by kernel_rfl) (by kernel_rfl) rfl rfl ?_
           refine AJ_skip 15 rfl (by kernel_rfl) (by kernel_rfl) rfl rfl ?_
           refine AJ_y 16 rfl (by kernel_rfl) (by kernel_rfl) rfl rfl (YJ_pickF rfl rfl) ?_
           refine AJ_y 17 rfl (by kernel_rfl) (by kernel_rfl) rfl rfl (YJ_assign rfl) ?_
           refine AJ_done (by kernel_rfl) ?_
           refine QJ_in_normal ?_
           refine QJ_then ?_
           refine CJ_reg ?_
           refine LJ_y rfl rfl (YJ_bin rfl rfl (iop_add (by omega))) ?_
           refine LJ_y rfl rfl (YJ_move rfl) ?_
           refine LJ_nil ?_
           refine QJ_roundF (F := fun (i : Nat × Bool) => ⟨[(0, .pointer (some ⟨B, 0, none⟩)), (1, .int .i64 (n : Nat)), (5, .pointer (some ⟨b1, 0, none⟩)), (21, .agg #[.int .i64 t.n0, .int .i64 t.n1, .int .i64 t.n2]), (6, .int .i64 (k : Nat)), (8, .int .i64 (t.v ((k + 1) % 3))), (9, .int .i64 (t.v ((k + 2) % 3))), (10, .pointer (some ⟨b2, 0, none⟩)), (11, .bool i.2), (22, .int .i64 (k : Nat)), (70, .int .i64 (i.1 : Nat))], [cellsR b2 #[.int .i64 o.v0, .int .i64 o.v1, .int .i64 o.v2, .int .i64 o.n0, .int .i64 o.n1, .int .i64 o.n2, .bool o.f0, .bool o.f1, .bool o.f2] 37, cellsR b1 #[.int .i64 t.v0, .int .i64 t.v1, .int .i64 t.v2, .int .i64 t.n0, .int .i64 t.n1, .int .i64 t.n2, .bool t.f0, .bool t.f1, .bool t.f2] 37], []⟩) (I := fun (i : Nat × Bool) => i.1 ≤ 3 ∧ i.2 = ([0, 1, 2].take i.1).foldl (besF o t (n : Nat) k) false) (m := fun (i : Nat × Bool) => 3 - i.1) (i := (j, fd)) ((j + 1, false)) (μd := []) ⟨by omega, by dsimp only; rw [b_three hj3]; unfold besF; rw [if_pos ⟨h81, h90⟩, decide_eq_false h97, Bool.false_and]⟩ (by dsimp only; omega) (And.intro rfl (And.intro rfl (And.intro rfl (And.intro rfl (And.intro rfl (And.intro rfl (And.intro rfl (And.intro rfl (And.intro rfl (And.intro rfl (And.intro rfl (trivial)))))))))))) (permI [] rfl) (fun _ h => nomatch h) (fun _ h => h)
         ·simp only [decide_eq_false_iff_not] at h90
          refine CJ_skip ?_
          refine QJ_in_normal ?_
          refine QJ_then ?_
          refine CJ_reg ?_
          refine LJ_y rfl rfl (YJ_bin rfl rfl (iop_add (by omega))) ?_
          refine LJ_y rfl rfl (YJ_move rfl) ?_
          refine LJ_nil ?_
          refine QJ_roundF (F := fun (i : Nat × Bool) => ⟨[(0, .pointer (some ⟨B, 0, none⟩)), (1, .int .i64 (n : Nat)), (5, .pointer (some ⟨b1, 0, none⟩)), (21, .agg #[.int .i64 t.n0, .int .i64 t.n1, .int .i64 t.n2]), (6, .int .i64 (k : Nat)), (8, .int .i64 (t.v ((k + 1) % 3))), (9, .int .i64 (t.v ((k + 2) % 3))), (10, .pointer (some ⟨b2, 0, none⟩)), (11, .bool i.2), (22, .int .i64 (k : Nat)), (70, .int .i64 (i.1 : Nat))], [cellsR b2 #[.int .i64 o.v0, .int .i64 o.v1, .int .i64 o.v2, .int .i64 o.n0, .int .i64 o.n1, .int .i64 o.n2, .bool o.f0, .bool o.f1, .bool o.f2] 37, cellsR b1 #[.int .i64 t.v0, .int .i64 t.v1, .int .i64 t.v2, .int .i64 t.n0, .int .i64 t.n1, .int .i64 t.n2, .bool t.f0, .bool t.f1, .bool t.f2] 37], []⟩) (I := fun (i : Nat × Bool) => i.1 ≤ 3 ∧ i.2 = ([0, 1, 2].take i.1).foldl (besF o t (n : Nat) k) false) (m := fun (i : Nat × Bool) => 3 - i.1) (i := (j, fd)) ((j + 1, fd)) (μd := []) ⟨by omega, by dsimp only; rw [b_three hj3, ← hfd]; unfold besF; rw [if_neg (fun q => h90 q.2)]⟩ (by dsimp only; omega) (And.intro rfl (And.intro rfl (And.intro rfl (And.intro rfl (And.intro rfl (And.intro rfl (And.intro rfl (And.intro rfl (And.intro rfl (And.intro rfl (And.intro rfl (trivial)))))))))))) (permI [] rfl) (fun _ h => nomatch h) (fun _ h => h)
        ·simp only [decide_eq_false_iff_not] at h81
         refine LJ_skip rfl rfl ?_
         refine LJ_skip rfl rfl ?_
         refine LJ_skip rfl rfl ?_
         refine LJ_skip rfl rfl ?_
         refine LJ_skip rfl rfl ?_
         refine LJ_skip rfl rfl ?_
         refine LJ_skip rfl rfl ?_
         refine LJ_skip rfl rfl ?_
         refine LJ_y rfl rfl (YJ_pickF rfl rfl) ?_
         refine LJ_nil ?_
         refine QJ_then ?_
         refine CJ_condF rfl ?_
         refine CJ_skip ?_
         refine QJ_in_normal ?_
         refine QJ_then ?_
         refine CJ_reg ?_
         refine LJ_y rfl rfl (YJ_bin rfl rfl (iop_add (by omega))) ?_
         refine LJ_y rfl rfl (YJ_move rfl) ?_
         refine LJ_nil ?_
         refine QJ_roundF (F := fun (i : Nat × Bool) => ⟨[(0, .pointer (some ⟨B, 0, none⟩)), (1, .int .i64 (n : Nat)), (5, .pointer (some ⟨b1, 0, none⟩)), (21, .agg #[.int .i64 t.n0, .int .i64 t.n1, .int .i64 t.n2]), (6, .int .i64 (k : Nat)), (8, .int .i64 (t.v ((k + 1) % 3))), (9, .int .i64 (t.v ((k + 2) % 3))), (10, .pointer (some ⟨b2, 0, none⟩)), (11, .bool i.2), (22, .int .i64 (k : Nat)), (70, .int .i64 (i.1 : Nat))], [cellsR b2 #[.int .i64 o.v0, .int .i64 o.v1, .int .i64 o.v2, .int .i64 o.n0, .int .i64 o.n1, .int .i64 o.n2, .bool o.f0, .bool o.f1, .bool o.f2] 37, cellsR b1 #[.int .i64 t.v0, .int .i64 t.v1, .int .i64 t.v2, .int .i64 t.n0, .int .i64 t.n1, .int .i64 t.n2, .bool t.f0, .bool t.f1, .bool t.f2] 37], []⟩) (I := fun (i : Nat × Bool) => i.1 ≤ 3 ∧ i.2 = ([0, 1, 2].take i.1).foldl (besF o t (n : Nat) k) false) (m := fun (i : Nat × Bool) => 3 - i.1) (i := (j, fd)) ((j + 1, fd)) (μd := []) ⟨by omega, by dsimp only; rw [b_three hj3, ← hfd]; unfold besF; rw [if_neg (fun q => h81 q.1)]⟩ (by dsimp only; omega) (And.intro rfl (And.intro rfl (And.intro rfl (And.intro rfl (And.intro rfl (And.intro rfl (And.intro rfl (And.intro rfl (And.intro rfl (And.intro rfl (And.intro rfl (trivial)))))))))))) (permI [] rfl) (fun _ h => nomatch h) (fun _ h => h)
       ·simp only [decide_eq_false_iff_not] at h71
        have hj3 : 3 = j := by omega
        subst hj3
        have hbi : besI tris t (n : Nat) k = fd := by
         unfold besI
         rw [if_neg hneg, ho]
         exact hfd.symm
        refine CJ_exit ?_
        refine QJ_then_exit ?_
        refine QJ_then_exit ?_
        refine QJ_in_exit ?_
        refine QJ_then ?_
        refine CJ_seq ?_
        refine CJ_reg ?_
        refine LJ_y rfl rfl (YJ_move rfl) ?_
        refine LJ_y rfl rfl (YJ_not rfl) ?_
        refine LJ_nil ?_
        refine QJ_then ?_
        refine CJ_cond rfl (fun h110 => ?_) (fun h110 => ?_)
        ·simp only [Bool.not_eq_true'] at h110
         refine CJ_seq ?_
         refine CJ_reg ?_
         refine LJ_y rfl rfl (YJ_assign rfl) ?_
         refine LJ_nil ?_
         refine QJ_then ?_
         refine CJ_ret ?_
         refine QJ_in_ret ?_
         refine QJ_then_ret ?_
         refine QJ_then_ret ?_
         refine QJ_in_ret ?_
         refine QJ_then_ret ?_
         refine QJ_fin (.inl rfl) (μ' := []) (μr := _) (φ' := []) (res_tmp rfl rfl) (List.Perm.refl _) (fun _ h => nomatch h) ?_
         exact ⟨congrArg Value.bool (besB_false hk3 (hbi.trans h110)).symm, rfl, rfl⟩
        ·simp only [Bool.not_eq_false'] at h110
         refine CJ_skip ?_
         refine QJ_in_normal ?_
         refine QJ_then ?_
         refine CJ_reg ?_
         refine LJ_y rfl rfl (YJ_bin rfl rfl (iop_add (by omega))) ?_
         refine LJ_y rfl rfl (YJ_move rfl) ?_
         refine LJ_nil ?_
         refine QJ_roundF (F := fun (i : Nat) => ⟨[(0, .pointer (some ⟨B, 0, none⟩)), (1, .int .i64 (n : Nat)), (5, .pointer (some ⟨b1, 0, none⟩)), (21, .agg #[.int .i64 t.n0, .int .i64 t.n1, .int .i64 t.n2]), (22, .int .i64 (i : Nat))], [cellsR b1 #[.int .i64 t.v0, .int .i64 t.v1, .int .i64 t.v2, .int .i64 t.n0, .int .i64 t.n1, .int .i64 t.n2, .bool t.f0, .bool t.f1, .bool t.f2] 37], []⟩) (I := fun (i : Nat) => i ≤ 3 ∧ ∀ q, q < i → besI tris t (n : Nat) q = true) (m := fun (i : Nat) => 3 - i) (i := k) (k + 1) (μd := [_]) ⟨by omega, fun q hq => (Nat.lt_succ_iff_lt_or_eq.1 hq).elim (hbs q) (fun e => by rw [e, hbi]; exact h110)⟩ (by omega) (And.intro rfl (And.intro rfl (And.intro rfl (And.intro rfl (And.intro rfl (trivial)))))) (permI [1] rfl) (fun _ h => nomatch h) (fun _ h => h)
    ·skip
     have hneg : ¬ (t.n k < 0 ∨ tris.length ≤ t.n k ∨ (t.fl k = true ∧ (t.v ((k + 1) % 3) < 0 ∨ t.v ((k + 2) % 3) < 0))) := by
      rintro (q | q | ⟨q, q2⟩)
      ·omega
      ·omega
      ·rw [h54] at q; cases q
     obtain ⟨o, ho⟩ := get_of_lt (tris := tris) (i := t.n k) (by omega) (by omega)
     refine LJ_skip rfl rfl ?_
     refine LJ_skip rfl rfl ?_
     refine LJ_skip rfl rfl ?_
     refine LJ_skip rfl rfl ?_
     refine LJ_skip rfl rfl ?_
     refine LJ_skip rfl rfl ?_
     refine LJ_y rfl rfl (YJ_pickF rfl rfl) ?_
     refine LJ_y rfl rfl (YJ_pickF rfl rfl) ?_
     refine LJ_nil ?_
     refine QJ_then ?_
     refine CJ_condF rfl ?_
     refine CJ_skip ?_
     refine QJ_then ?_
     refine CJ_seq ?_
     refine CJ_reg ?_
     refine LJ_y rfl rfl (YJ_move rfl) ?_
     refine LJ_y rfl rfl (YJ_nilCheck rfl) ?_
     refine LJ_y rfl rfl (YJ_fieldOwn rfl fld_57_1 rfl) ?_
     refine LJ_y rfl rfl (YJ_loadFactP (A := some ⟨B, 0, none⟩) (j := 1) rfl rfl tyi_54 m0 rfl) ?_
     refine LJ_y rfl rfl (YJ_move rfl) ?_
     refine LJ_y rfl rfl (YJ_ixFact rfl rfl elt_54 m2 (by decide) (by omega) (by omega) (by omega)) ?_
     refine LJ_y rfl rfl (YJ_loadFactN (vs := [.int .i64 o.v0, .int .i64 o.v1, .int .i64 o.v2, .int .i64 o.n0, .int .i64 o.n1, .int .i64 o.n2, .bool o.f0, .bool o.f1, .bool o.f2]) (xs := trCells tris) rfl tyi_37 m2 (trCells_row ho) rfl) ?_
     refine LJ_alloc (cs := #[_, _, _, _, _, _, _, _, _]) rfl rfl zer_37 rfl ?_
     intro b3
     refine LJ_store (cs' := #[_, _, _, _, _, _, _, _, _]) (μ' := [_, _]) 0 rfl rfl rfl rfl tyi_37 rfl (Nat.le_of_ble_eq_true rfl) rfl (wr_all rfl) rfl ?_
     refine LJ_y rfl rfl (YJ_assign rfl) ?_
     refine LJ_nil ?_
     refine QJ_then ?_
     refine CJ_seq ?_
     refine CJ_seq ?_
     refine CJ_reg ?_
     refine LJ_y rfl rfl (YJ_move rfl) ?_
     refine LJ_nil ?_
     refine QJ_then ?_
     refine CJ_block ?_
     refine CJ_loopF (F := fun (i : Nat × Bool) => ⟨[(0, .pointer (some ⟨B, 0, none⟩)), (1, .int .i64 (n : Nat)), (5, .pointer (some ⟨b1, 0, none⟩)), (21, .agg #[.int .i64 t.n0, .int .i64 t.n1, .int .i64 t.n2]), (6, .int .i64 (k : Nat)), (8, .int .i64 (t.v ((k + 1) % 3))), (9, .int .i64 (t.v ((k + 2) % 3))), (10, .pointer (some ⟨b3, 0, none⟩)), (11, .bool i.2), (22, .int .i64 (k : Nat)), (70, .int .i64 (i.1 : Nat))], [cellsR b3 #[.int .i64 o.v0, .int .i64 o.v1, .int .i64 o.v2, .int .i64 o.n0, .int .i64 o.n1, .int .i64 o.n2, .bool o.f0, .bool o.f1, .bool o.f2] 37, cellsR b1 #[.int .i64 t.v0, .int .i64 t.v1, .int .i64 t.v2, .int .i64 t.n0, .int .i64 t.n1, .int .i64 t.n2, .bool t.f0, .bool t.f1, .bool t.f2] 37], []⟩) (I := fun (i : Nat × Bool) => i.1 ≤ 3 ∧ i.2 = ([0, 1, 2].take i.1).foldl (besF o t (n : Nat) k) false) (m := fun (i : Nat × Bool) => 3 - i.1) (0, false) (μr := []) ⟨Nat.zero_le _, rfl⟩ (And.intro rfl (And.intro rfl (And.intro rfl (And.intro rfl (And.intro rfl (And.intro rfl (And.intro rfl (And.intro rfl (And.intro rfl (And.intro rfl (And.intro rfl (trivial)))))))))))) (permI [] rfl) (fun _ h => nomatch h) ?_
     rintro ⟨j, fd⟩ ⟨hj, hfd⟩
     try dsimp only at hj
     try dsimp only at hfd
     show CJ _ _ _ [(0, .pointer (some ⟨B, 0, none⟩)), (1, .int .i64 (n : Nat)), (5, .pointer (some ⟨b1, 0, none⟩)), (21, .agg #[.int .i64 t.n0, .int .i64 t.n1, .int .i64 t.n2]), (6, .int .i64 (k : Nat)), (8, .int .i64 (t.v ((k + 1) % 3))), (9, .int .i64 (t.v ((k + 2) % 3))), (10, .pointer (some ⟨b3, 0, none⟩)), (11, .bool fd), (22, .int .i64 (k : Nat)), (70, .int .i64 (j : Nat))] (cellsR b3 #[.int .i64 o.v0, .int .i64 o.v1, .int .i64 o.v2, .int .i64 o.n0, .int .i64 o.n1, .int .i64 o.n2, .bool o.f0, .bool o.f1, .bool o.f2] 37 :: cellsR b1 #[.int .i64 t.v0, .int .i64 t.v1, .int .i64 t.v2, .int .i64 t.n0, .int .i64 t.n1, .int .i64 t.n2, .bool t.f0, .bool t.f1, .bool t.f2] 37 :: _) _
     refine CJ_seq ?_
     refine CJ_reg ?_
     refine LJ_y rfl rfl (YJ_bin rfl rfl rfl) ?_
     refine LJ_nil ?_
     refine QJ_then ?_
     refine CJ_seq ?_
     refine CJ_cond rfl (fun h71 => ?_) (fun h71 => ?_)
     ·simp only [decide_eq_true_eq] at h71
      have hj3 : j < 3 := by omega
      refine CJ_skip ?_
      refine QJ_then ?_
      refine CJ_seq ?_
      refine CJ_block ?_
      refine CJ_seq ?_
      refine CJ_reg ?_
      refine LJ_y rfl rfl (YJ_move rfl) ?_
      refine LJ_y rfl rfl (YJ_assign rfl) ?_
      refine LJ_nil ?_
      refine QJ_then ?_
      refine CJ_seq ?_
      refine CJ_reg ?_
      refine LJ_y rfl rfl (YJ_move rfl) ?_
      refine LJ_y rfl rfl (YJ_bin rfl rfl (iop_add (by omega))) ?_
      refine LJ_y rfl rfl (YJ_rem rfl rfl (by first | decide | omega)) ?_
      refine LJ_val (v := .int .i64 (((j + 1) % 3 : Nat) : Int)) (congrArg (Value.int .i64) (tm3 (j := 1) hj3 (by decide))) ?_
      refine LJ_y rfl rfl (YJ_fieldOwn rfl fld_37_0 rfl) ?_
      refine LJ_y rfl rfl (YJ_ixArr rfl rfl arrt_34 (by omega) (by omega) rfl) ?_
      refine LJ_y rfl rfl (YJ_load1 rfl tyi_3 m0 (v_get (t := o) (Nat.mod_lt (j + 1) (by decide)))) ?_
      refine LJ_y rfl rfl (YJ_move rfl) ?_
      refine LJ_y rfl rfl (YJ_bin rfl rfl rfl) ?_
      refine LJ_y rfl rfl (YJ_move rfl) ?_
      refine LJ_boolC (fun h81 => ?_) (fun h81 => ?_)
      ·simp only [decide_eq_true_eq] at h81
       refine LJ_y rfl rfl (YJ_move rfl) ?_
       refine LJ_y rfl rfl (YJ_bin rfl rfl (iop_add (by omega))) ?_
       refine LJ_y rfl rfl (YJ_rem rfl rfl (by first | decide | omega)) ?_
       refine LJ_val (v := .int .i64 (((j + 2) % 3 : Nat) : Int)) (congrArg (Value.int .i64) (tm3 (j := 2) hj3 (by decide))) ?_
       refine LJ_y rfl rfl (YJ_fieldOwn rfl fld_37_0 rfl) ?_
       refine LJ_y rfl rfl (YJ_ixArr rfl rfl arrt_34 (by omega) (by omega) rfl) ?_
       refine LJ_y rfl rfl (YJ_load1 rfl tyi_3 m0 (v_get (t := o) (Nat.mod_lt (j + 2) (by decide)))) ?_
       refine LJ_y rfl rfl (YJ_move rfl) ?_
       refine LJ_y rfl rfl (YJ_bin rfl rfl rfl) ?_
       refine LJ_y rfl rfl (YJ_pickT rfl rfl) ?_
       refine LJ_nil ?_
       refine QJ_then ?_
       refine CJ_cond rfl (fun h90 => ?_) (fun h90 => ?_)
       ·simp only [decide_eq_true_eq] at h90
        refine CJ_regD mix (by kernel_rfl) (fun _ _ _ _ _ h => h) _ _ (fun _ h => h) (fun _ h => h) ?_
        refine AJ_y 0 rfl (by kernel_rfl) (by kernel_rfl) rfl rfl (YJ_move rfl) ?_
        refine AJ_y 1 rfl (by kernel_rfl) (by kernel_rfl) rfl rfl (YJ_fieldOwn rfl fld_37_1 rfl) ?_
        refine AJ_y 2 rfl (by kernel_rfl) (by kernel_rfl) rfl rfl (YJ_ixArr rfl rfl arrt_34 (by omega) (by omega) rfl) ?_
        refine AJ_y 3 rfl (by kernel_rfl) (by kernel_rfl) rfl rfl (YJ_load1 rfl tyi_3 m0 (na_get (t := o) hj3)) ?_
        refine AJ_y 4 rfl (by kernel_rfl) (by kernel_rfl) rfl rfl (YJ_move rfl) ?_
        refine AJ_y 5 rfl (by kernel_rfl) (by kernel_rfl) rfl rfl (YJ_bin rfl rfl rfl) ?_
        refine AJ_y 6 rfl (by kernel_rfl) (by kernel_rfl) rfl rfl (YJ_move rfl) ?_
        refine AJ_boolC (fun h97 => ?_) (fun h97 => ?_)
        ·simp only [decide_eq_true_eq] at h97
         refine AJ_y 7 rfl (by kernel_rfl) (by kernel_rfl) rfl rfl (YJ_move rfl) ?_
         refine AJ_y 8 rfl (by kernel_rfl) (by kernel_rfl) rfl rfl (YJ_fieldOwn rfl fld_37_2 rfl) ?_
         refine AJ_y 9 rfl (by kernel_rfl) (by kernel_rfl) rfl rfl (YJ_ixArr rfl rfl arrt_35 (by omega) (by omega) rfl) ?_
         refine AJ_y 10 rfl (by kernel_rfl) (by kernel_rfl) rfl rfl (YJ_load1 rfl tyi_4 m0 (fa_get (t := o) hj3)) ?_
         refine AJ_y 11 rfl (by kernel_rfl) (by kernel_rfl) rfl rfl (YJ_move rfl) ?_
         refine AJ_y 12 rfl (by kernel_rfl) (by kernel_rfl) rfl rfl (YJ_fieldOwn rfl fld_37_2 rfl) ?_
         refine AJ_y 13 rfl (by kernel_rfl) (by kernel_rfl) rfl rfl (YJ_ixArr rfl rfl arrt_35 (by omega) (by omega) rfl) ?_
         refine AJ_y 14 rfl (by kernel_rfl) (by kernel_rfl) rfl rfl (YJ_load1 rfl tyi_4 m1 (fa_get (t := t) hk3)) ?_
         refine AJ_y 15 rfl (by kernel_rfl) (by kernel_rfl) rfl rfl (YJ_eqb rfl rfl ubool_4) ?_
         refine AJ_y 16 rfl (by kernel_rfl) (by kernel_rfl) rfl rfl (YJ_pickT rfl rfl) ?_
         refine AJ_y 17 rfl (by kernel_rfl) (by kernel_rfl) rfl rfl (YJ_assign rfl) ?_
         refine AJ_done (by kernel_rfl) ?_
         refine QJ_in_normal ?_
         refine QJ_then ?_
         refine CJ_reg ?_
         refine LJ_y rfl rfl (YJ_bin rfl rfl (iop_add (by omega))) ?_
         refine LJ_y rfl rfl (YJ_move rfl) ?_
         refine LJ_nil ?_
         refine QJ_roundF (F := fun (i : Nat × Bool) => ⟨[(0, .pointer (some ⟨B, 0, none⟩)), (1, .int .i64 (n : Nat)), (5, .pointer (some ⟨b1, 0, none⟩)), (21, .agg #[.int .i64 t.n0, .int .i64 t.n1, .int .i64 t.n2]), (6, .int .i64 (k : Nat)), (8, .int .i64 (t.v ((k + 1) % 3))), (9, .int .i64 (t.v ((k + 2) % 3))), (10, .pointer (some ⟨b3, 0, none⟩)), (11, .bool i.2), (22, .int .i64 (k : Nat)), (70, .int .i64 (i.1 : Nat))], [cellsR b3 #[.int .i64 o.v0, .int .i64 o.v1, .int .i64 o.v2, .int .i64 o.n0, .int .i64 o.n1, .int .i64 o.n2, .bool o.f0, .bool o.f1, .bool o.f2] 37, cellsR b1 #[.int .i64 t.v0, .int .i64 t.v1, .int .i64 t.v2, .int .i64 t.n0, .int .i64 t.n1, .int .i64 t.n2, .bool t.f0, .bool t.f1, .bool t.f2] 37], []⟩) (I := fun (i : Nat × Bool) => i.1 ≤ 3 ∧ i.2 = ([0, 1, 2].take i.1).foldl (besF o t (n : Nat) k) false) (m := fun (i : Nat × Bool) => 3 - i.1) (i := (j, fd)) ((j + 1, (o.fl j == t.fl k))) (μd := []) ⟨by omega, by dsimp only; rw [b_three hj3]; unfold besF; rw [if_pos ⟨h81, h90⟩, decide_eq_true h97, Bool.true_and]⟩ (by dsimp only; omega) (And.intro rfl (And.intro rfl (And.intro rfl (And.intro rfl (And.intro rfl (And.intro rfl (And.intro rfl (And.intro rfl (And.intro rfl (And.intro rfl (And.intro rfl (trivial)))))))))))) (permI [] rfl) (fun _ h => nomatch h) (fun _ h => h)
        ·simp only [decide_eq_false_iff_not] at h97
         refine AJ_skip 7 rfl (by kernel_rfl) (by kernel_rfl) rfl rfl ?_
         refine AJ_skip 8 rfl (by kernel_rfl) (by kernel_rfl) rfl rfl ?_
         refine AJ_skip 9 rfl (by kernel_rfl) (by kernel_rfl) rfl rfl ?_
         refine AJ_skip 10 rfl (by kernel_rfl) (by kernel_rfl) rfl rfl ?_
         refine AJ_skip 11 rfl (by kernel_rfl) (by kernel_rfl) rfl rfl ?_
         refine AJ_skip 12 rfl (by kernel_rfl) (by kernel_rfl) rfl rfl ?_
         refine AJ_skip 13 rfl (by kernel_rfl) (by kernel_rfl) rfl rfl ?_
         refine AJ_skip 14 rfl (by kernel_rfl) (by kernel_rfl) rfl rfl ?_
         refine AJ_skip 15 rfl (by kernel_rfl) (by kernel_rfl) rfl rfl ?_
         refine AJ_y 16 rfl (by kernel_rfl) (by kernel_rfl) rfl rfl (YJ_pickF rfl rfl) ?_
         refine AJ_y 17 rfl (by kernel_rfl) (by kernel_rfl) rfl rfl (YJ_assign rfl) ?_
         refine AJ_done (by kernel_rfl) ?_
         refine QJ_in_normal ?_
         refine QJ_then ?_
         refine CJ_reg ?_
         refine LJ_y rfl rfl (YJ_bin rfl rfl (iop_add (by omega))) ?_
         refine LJ_y rfl rfl (YJ_move rfl) ?_
         refine LJ_nil ?_
         refine QJ_roundF (F := fun (i : Nat × Bool) => ⟨[(0, .pointer (some ⟨B, 0, none⟩)), (1, .int .i64 (n : Nat)), (5, .pointer (some ⟨b1, 0, none⟩)), (21, .agg #[.int .i64 t.n0, .int .i64 t.n1, .int .i64 t.n2]), (6, .int .i64 (k : Nat)), (8, .int .i64 (t.v ((k + 1) % 3))), (9, .int .i64 (t.v ((k + 2) % 3))), (10, .pointer (some ⟨b3, 0, none⟩)), (11, .bool i.2), (22, .int .i64 (k : Nat)), (70, .int .i64 (i.1 : Nat))], [cellsR b3 #[.int .i64 o.v0, .int .i64 o.v1, .int .i64 o.v2, .int .i64 o.n0, .int .i64 o.n1, .int .i64 o.n2, .bool o.f0, .bool o.f1, .bool o.f2] 37, cellsR b1 #[.int .i64 t.v0, .int .i64 t.v1, .int .i64 t.v2, .int .i64 t.n0, .int .i64 t.n1, .int .i64 t.n2, .bool t.f0, .bool t.f1, .bool t.f2] 37], []⟩) (I := fun (i : Nat × Bool) => i.1 ≤ 3 ∧ i.2 = ([0, 1, 2].take i.1).foldl (besF o t (n : Nat) k) false) (m := fun (i : Nat × Bool) => 3 - i.1) (i := (j, fd)) ((j + 1, false)) (μd := []) ⟨by omega, by dsimp only; rw [b_three hj3]; unfold besF; rw [if_pos ⟨h81, h90⟩, decide_eq_false h97, Bool.false_and]⟩ (by dsimp only; omega) (And.intro rfl (And.intro rfl (And.intro rfl (And.intro rfl (And.intro rfl (And.intro rfl (And.intro rfl (And.intro rfl (And.intro rfl (And.intro rfl (And.intro rfl (trivial)))))))))))) (permI [] rfl) (fun _ h => nomatch h) (fun _ h => h)
       ·simp only [decide_eq_false_iff_not] at h90
        refine CJ_skip ?_
        refine QJ_in_normal ?_
        refine QJ_then ?_
        refine CJ_reg ?_
        refine LJ_y rfl rfl (YJ_bin rfl rfl (iop_add (by omega))) ?_
        refine LJ_y rfl rfl (YJ_move rfl) ?_
        refine LJ_nil ?_
        refine QJ_roundF (F := fun (i : Nat × Bool) => ⟨[(0, .pointer (some ⟨B, 0, none⟩)), (1, .int .i64 (n : Nat)), (5, .pointer (some ⟨b1, 0, none⟩)), (21, .agg #[.int .i64 t.n0, .int .i64 t.n1, .int .i64 t.n2]), (6, .int .i64 (k : Nat)), (8, .int .i64 (t.v ((k + 1) % 3))), (9, .int .i64 (t.v ((k + 2) % 3))), (10, .pointer (some ⟨b3, 0, none⟩)), (11, .bool i.2), (22, .int .i64 (k : Nat)), (70, .int .i64 (i.1 : Nat))], [cellsR b3 #[.int .i64 o.v0, .int .i64 o.v1, .int .i64 o.v2, .int .i64 o.n0, .int .i64 o.n1, .int .i64 o.n2, .bool o.f0, .bool o.f1, .bool o.f2] 37, cellsR b1 #[.int .i64 t.v0, .int .i64 t.v1, .int .i64 t.v2, .int .i64 t.n0, .int .i64 t.n1, .int .i64 t.n2, .bool t.f0, .bool t.f1, .bool t.f2] 37], []⟩) (I := fun (i : Nat × Bool) => i.1 ≤ 3 ∧ i.2 = ([0, 1, 2].take i.1).foldl (besF o t (n : Nat) k) false) (m := fun (i : Nat × Bool) => 3 - i.1) (i := (j, fd)) ((j + 1, fd)) (μd := []) ⟨by omega, by dsimp only; rw [b_three hj3, ← hfd]; unfold besF; rw [if_neg (fun q => h90 q.2)]⟩ (by dsimp only; omega) (And.intro rfl (And.intro rfl (And.intro rfl (And.intro rfl (And.intro rfl (And.intro rfl (And.intro rfl (And.intro rfl (And.intro rfl (And.intro rfl (And.intro rfl (trivial)))))))))))) (permI [] rfl) (fun _ h => nomatch h) (fun _ h => h)
      ·simp only [decide_eq_false_iff_not] at h81
       refine LJ_skip rfl rfl ?_
       refine LJ_skip rfl rfl ?_
       refine LJ_skip rfl rfl ?_
       refine LJ_skip rfl rfl ?_
       refine LJ_skip rfl rfl ?_
       refine LJ_skip rfl rfl ?_
       refine LJ_skip rfl rfl ?_
       refine LJ_skip rfl rfl ?_
       refine LJ_y rfl rfl (YJ_pickF rfl rfl) ?_
       refine LJ_nil ?_
       refine QJ_then ?_
       refine CJ_condF rfl ?_
       refine CJ_skip ?_
       refine QJ_in_normal ?_
       refine QJ_then ?_
       refine CJ_reg ?_
       refine LJ_y rfl rfl (YJ_bin rfl rfl (iop_add (by omega))) ?_
       refine LJ_y rfl rfl (YJ_move rfl) ?_
       refine LJ_nil ?_
       refine QJ_roundF (F := fun (i : Nat × Bool) => ⟨[(0, .pointer (some ⟨B, 0, none⟩)), (1, .int .i64 (n : Nat)), (5, .pointer (some ⟨b1, 0, none⟩)), (21, .agg #[.int .i64 t.n0, .int .i64 t.n1, .int .i64 t.n2]), (6, .int .i64 (k : Nat)), (8, .int .i64 (t.v ((k + 1) % 3))), (9, .int .i64 (t.v ((k + 2) % 3))), (10, .pointer (some ⟨b3, 0, none⟩)), (11, .bool i.2), (22, .int .i64 (k : Nat)), (70, .int .i64 (i.1 : Nat))], [cellsR b3 #[.int .i64 o.v0, .int .i64 o.v1, .int .i64 o.v2, .int .i64 o.n0, .int .i64 o.n1, .int .i64 o.n2, .bool o.f0, .bool o.f1, .bool o.f2] 37, cellsR b1 #[.int .i64 t.v0, .int .i64 t.v1, .int .i64 t.v2, .int .i64 t.n0, .int .i64 t.n1, .int .i64 t.n2, .bool t.f0, .bool t.f1, .bool t.f2] 37], []⟩) (I := fun (i : Nat × Bool) => i.1 ≤ 3 ∧ i.2 = ([0, 1, 2].take i.1).foldl (besF o t (n : Nat) k) false) (m := fun (i : Nat × Bool) => 3 - i.1) (i := (j, fd)) ((j + 1, fd)) (μd := []) ⟨by omega, by dsimp only; rw [b_three hj3, ← hfd]; unfold besF; rw [if_neg (fun q => h81 q.1)]⟩ (by dsimp only; omega) (And.intro rfl (And.intro rfl (And.intro rfl (And.intro rfl (And.intro rfl (And.intro rfl (And.intro rfl (And.intro rfl (And.intro rfl (And.intro rfl (And.intro rfl (trivial)))))))))))) (permI [] rfl) (fun _ h => nomatch h) (fun _ h => h)
     ·simp only [decide_eq_false_iff_not] at h71
      have hj3 : 3 = j := by omega
      subst hj3
      have hbi : besI tris t (n : Nat) k = fd := by
       unfold besI
       rw [if_neg hneg, ho]
       exact hfd.symm
      refine CJ_exit ?_
      refine QJ_then_exit ?_
      refine QJ_then_exit ?_
      refine QJ_in_exit ?_
      refine QJ_then ?_
      refine CJ_seq ?_
      refine CJ_reg ?_
      refine LJ_y rfl rfl (YJ_move rfl) ?_
      refine LJ_y rfl rfl (YJ_not rfl) ?_
      refine LJ_nil ?_
      refine QJ_then ?_
      refine CJ_cond rfl (fun h110 => ?_) (fun h110 => ?_)
      ·simp only [Bool.not_eq_true'] at h110
       refine CJ_seq ?_
       refine CJ_reg ?_
       refine LJ_y rfl rfl (YJ_assign rfl) ?_
       refine LJ_nil ?_
       refine QJ_then ?_
       refine CJ_ret ?_
       refine QJ_in_ret ?_
       refine QJ_then_ret ?_
       refine QJ_then_ret ?_
       refine QJ_in_ret ?_
       refine QJ_then_ret ?_
       refine QJ_fin (.inl rfl) (μ' := []) (μr := _) (φ' := []) (res_tmp rfl rfl) (List.Perm.refl _) (fun _ h => nomatch h) ?_
       exact ⟨congrArg Value.bool (besB_false hk3 (hbi.trans h110)).symm, rfl, rfl⟩
      ·simp only [Bool.not_eq_false'] at h110
       refine CJ_skip ?_
       refine QJ_in_normal ?_
       refine QJ_then ?_
       refine CJ_reg ?_
       refine LJ_y rfl rfl (YJ_bin rfl rfl (iop_add (by omega))) ?_
       refine LJ_y rfl rfl (YJ_move rfl) ?_
       refine LJ_nil ?_
       refine QJ_roundF (F := fun (i : Nat) => ⟨[(0, .pointer (some ⟨B, 0, none⟩)), (1, .int .i64 (n : Nat)), (5, .pointer (some ⟨b1, 0, none⟩)), (21, .agg #[.int .i64 t.n0, .int .i64 t.n1, .int .i64 t.n2]), (22, .int .i64 (i : Nat))], [cellsR b1 #[.int .i64 t.v0, .int .i64 t.v1, .int .i64 t.v2, .int .i64 t.n0, .int .i64 t.n1, .int .i64 t.n2, .bool t.f0, .bool t.f1, .bool t.f2] 37], []⟩) (I := fun (i : Nat) => i ≤ 3 ∧ ∀ q, q < i → besI tris t (n : Nat) q = true) (m := fun (i : Nat) => 3 - i) (i := k) (k + 1) (μd := [_]) ⟨by omega, fun q hq => (Nat.lt_succ_iff_lt_or_eq.1 hq).elim (hbs q) (fun e => by rw [e, hbi]; exact h110)⟩ (by omega) (And.intro rfl (And.intro rfl (And.intro rfl (And.intro rfl (And.intro rfl (trivial)))))) (permI [1] rfl) (fun _ h => nomatch h) (fun _ h => h)
 ·simp only [decide_eq_false_iff_not] at h23
  have hk3 : 3 = k := by omega
  subst hk3
  refine CJ_exit ?_
  refine QJ_then_exit ?_
  refine QJ_then_exit ?_
  refine QJ_in_exit ?_
  refine QJ_then ?_
  refine CJ_seq ?_
  refine CJ_reg ?_
  refine LJ_y rfl rfl (YJ_assign rfl) ?_
  refine LJ_nil ?_
  refine QJ_then ?_
  refine CJ_ret ?_
  refine QJ_fin (.inl rfl) (μ' := []) (μr := _) (φ' := []) (res_tmp rfl rfl) (List.Perm.refl _) (fun _ h => nomatch h) ?_
  exact ⟨congrArg Value.bool (show true = besB tris t (n : Nat) from by unfold besB; rw [hbs 0 (by decide), hbs 1 (by decide), hbs 2 (by decide)]; rfl), rfl, rfl⟩
end Go.Proofs.Ytbanlhlggkdanaa
namespace Go.Proofs.Ytbanlhlggkdanaa
open Go.RowKit
def fb (l : List Tr) (q k : Nat) : Option Bool := l[q]?.map fun t => t.fl k
theorem setN_f (t : Tr) (i : Nat) (u : Int) (k : Nat) : (t.setN i u).fl k = t.fl k := by
 unfold Tr.setN
 (repeat' split) <;> rfl
theorem setF_f (t : Tr) {i k : Nat} (f : Bool) (hi : i < 3) (hk : k < 3) : (t.setF i f).fl k = if k = i then f else t.fl k := by
 match i, hi, k, hk with
 | 0, _, 0, _ => rfl
 | 0, _, 1, _ => rfl
 | 0, _, 2, _ => rfl
 | 1, _, 0, _ => rfl
 | 1, _, 1, _ => rfl
 | 1, _, 2, _ => rfl
 | 2, _, 0, _ => rfl
 | 2, _, 1, _ => rfl
 | 2, _, 2, _ => rfl
theorem fb_modN (l : List Tr) (i j : Nat) (u : Int) (q k : Nat) : fb (l.modify i (·.setN j u)) q k = fb l q k := by
 unfold fb
 rw [List.getElem?_modify]
 cases l[q]? with
 | none => rfl
 | some t => by_cases h : i = q <;> simp [h, setN_f]
theorem fb_modF (l : List Tr) {i j : Nat} (f : Bool) {q k : Nat} (hj : j < 3) (hk : k < 3) : fb (l.modify i (·.setF j f)) q k = if q = i ∧ k = j then (fb l q k).map (fun _ => f) else fb l q k := by
 unfold fb
 rw [List.getElem?_modify]
 cases l[q]? with
 | none => simp
 | some t =>
  by_cases h : i = q
  ·subst h
   by_cases h2 : k = j
   ·subst h2; simp [setF_f t f hk hk]
   ·simp [setF_f t f hj hk, h2]
  ·have h' : ¬ q = i := fun e => h e.symm
   simp [h, h']
theorem fb_link (M : MD) {t i u j : Nat} (f : Bool) {q k : Nat} (hi : i < 3) (hj : j < 3) (hk : k < 3) : fb (M.link t i u j f).tris q k = if q = u ∧ k = j then (fb M.tris q k).map (fun _ => f) else if q = t ∧ k = i then (fb M.tris q k).map (fun _ => f) else fb M.tris q k := by
 unfold MD.link
 dsimp only
 rw [fb_modF _ _ hj hk, fb_modF _ _ hi hk, fb_modN, fb_modN]
 by_cases h1 : q = u ∧ k = j
 ·rw [if_pos h1, if_pos h1]
  by_cases h2 : q = t ∧ k = i
  ·rw [if_pos h2]; cases fb M.tris q k <;> rfl
  ·rw [if_neg h2]
 ·rw [if_neg h1, if_neg h1]
theorem fb_make (M : MD) (a b c : Int) (q j : Nat) (hq : q ≠ M.nextN.toNat) : fb (M.make a b c).tris q j = fb M.tris q j := by
 unfold fb MD.make
 unfold MD.nextN at hq
 dsimp only
 cases h : M.free.getLast? with
 | none =>
  rw [h] at hq
  dsimp only at hq ⊢
  rw [List.getElem?_append]
  by_cases h1 : q < M.tris.length
  ·rw [if_pos h1]
  ·rw [if_neg h1, List.getElem?_eq_none (by simp at hq ⊢; omega), List.getElem?_eq_none (by omega)]
 | some k =>
  rw [h] at hq
  dsimp only at hq ⊢
  rw [List.getElem?_set, if_neg (fun e => hq e.symm)]
theorem flt_comm (F : MapI) (a b : Int) : flt F a b = flt F b a := by
 unfold flt
 rw [Int.min_comm a b, Int.max_comm a b, ← Bool.and_assoc, ← Bool.and_assoc, Bool.and_comm (decide (0 ≤ a))]
theorem vw_fb {l : List Tr} {q k : Nat} {v : Int × Int × Int} (h : vw l q = some v) : ∃ x, fb l q k = some x := by
 unfold vw at h
 unfold fb
 cases hl : l[q]? with
 | none => rw [hl] at h; cases h
 | some t => exact ⟨_, rfl⟩
abbrev Slot := Nat × Nat × (Int × Int)
abbrev rev2 (e : Int × Int) : Int × Int := (e.2, e.1)
structure SI (F : MapI) (s : BS) (E : List Slot) : Prop where
 kn : (s.L.map (·.1)).Nodup
 vs : ∀ x, x ∈ E → x.2.1 < 3 ∧ ∃ v, vw s.M.tris x.1 = some v ∧ kv v x.2.1 = x.2.2
 ne : ∀ x, x ∈ E → x.2.2.1 ≠ x.2.2.2
 uq : ∀ x, x ∈ E → ∀ y, y ∈ E → x.2.2 = y.2.2 → x = y
 lk : ∀ x, x ∈ E → ∀ y, y ∈ E → y.2.2 = rev2 x.2.2 → nb s.M.tris x.1 x.2.1 = some (y.1 : Int) ∧ fb s.M.tris x.1 x.2.1 = some (flt F x.2.2.1 x.2.2.2)
 op : ∀ x, x ∈ E → (∀ y, y ∈ E → y.2.2 ≠ rev2 x.2.2) → mget x.2.2 s.L = some ((x.1 : Int), (x.2.1 : Int))
 ex : ∀ e v, mget e s.L = some v → ∃ x, x ∈ E ∧ x.2.2 = e ∧ v = ((x.1 : Int), (x.2.1 : Int)) ∧ ∀ y, y ∈ E → y.2.2 ≠ rev2 e
theorem SI.join {F : MapI} {s : BS} {E : List Slot} {n i : Nat} {v0 v1 v2 : Int} (h : SI F s E) (hi : i < 3) (hv : vw s.M.tris n = some (v0, v1, v2)) (hne : (kv (v0, v1, v2) i).1 ≠ (kv (v0, v1, v2) i).2) (hnew : ∀ x, x ∈ E → x.2.2 ≠ kv (v0, v1, v2) i) :
  SI F (joinE F n v0 v1 v2 s i) (E ++ [(n, i, kv (v0, v1, v2) i)]) := by
 have hpos : ∀ x, x ∈ E → ¬ (x.1 = n ∧ x.2.1 = i) := by
  rintro x hx ⟨e1, e2⟩
  obtain ⟨_, v, q1, q2⟩ := h.vs x hx
  rw [e1, hv] at q1
  cases q1
  exact hnew x hx (by rw [← q2, e2])
 have hg : (at3 v0 v1 v2 ((i + 2) % 3), at3 v0 v1 v2 ((i + 1) % 3)) = rev2 (kv (v0, v1, v2) i) := rfl
 have hk : (at3 v0 v1 v2 ((i + 1) % 3), at3 v0 v1 v2 ((i + 2) % 3)) = kv (v0, v1, v2) i := rfl
 have hf : flt F (at3 v0 v1 v2 ((i + 1) % 3)) (at3 v0 v1 v2 ((i + 2) % 3)) = flt F (kv (v0, v1, v2) i).1 (kv (v0, v1, v2) i).2 := rfl
 unfold joinE
 rw [hg, hk, hf]
 generalize kv (v0, v1, v2) i = e at *
 have hre : ∀ {e' : Int × Int}, e = rev2 e' → e' = rev2 e := fun q => by rw [q]
 have uqn : ∀ x, x ∈ E ++ [(n, i, e)] → ∀ y, y ∈ E ++ [(n, i, e)] → x.2.2 = y.2.2 → x = y := by
  intro x hx y hy hxy
  rcases List.mem_append.1 hx with hx | hx <;> rcases List.mem_append.1 hy with hy | hy
  ·exact h.uq x hx y hy hxy
  ·rw [List.mem_singleton] at hy; subst hy; exact absurd hxy (hnew x hx)
  ·rw [List.mem_singleton] at hx; subst hx; exact absurd hxy.symm (hnew y hy)
  ·rw [List.mem_singleton] at hx hy; rw [hx, hy]
 have nen : ∀ x, x ∈ E ++ [(n, i, e)] → x.2.2.1 ≠ x.2.2.2 := by
  intro x hx
  rcases List.mem_append.1 hx with hx | hx
  ·exact h.ne x hx
  ·rw [List.mem_singleton] at hx; subst hx; exact hne
 have her : e ≠ rev2 e := fun q => hne (congrArg Prod.fst q)
 cases hm : mget (rev2 e) s.L with
 | some w =>
  dsimp only
  obtain ⟨o, ho, ho1, ho2, ho3⟩ := h.ex _ _ hm
  have e1 : w.1.toNat = o.1 := by rw [ho2]; simp
  have e2 : w.2.toNat = o.2.1 := by rw [ho2]; simp
  rw [e1, e2]
  obtain ⟨hj, ov, hov, hokv⟩ := h.vs o ho
  have hon : ¬ (n = o.1 ∧ i = o.2.1) := fun q => hpos o ho ⟨q.1.symm, q.2.symm⟩
  have hother : ∀ x, x ∈ E → x.1 = o.1 → x.2.1 = o.2.1 → x.2.2 = rev2 e := by
   intro x hx q1 q2
   obtain ⟨_, v, p1, p2⟩ := h.vs x hx
   rw [q1, hov] at p1
   cases p1
   rw [← p2, q2, hokv, ho1]
  refine ⟨mdel_keys h.kn, fun x hx => ?_, nen, uqn, fun x hx y hy hxy => ?_, fun x hx hno => ?_, fun e' v hv' => ?_⟩
  ·rcases List.mem_append.1 hx with hx | hx
   ·obtain ⟨a1, v, a2, a3⟩ := h.vs x hx
    exact ⟨a1, v, by rw [vw_link]; exact a2, a3⟩
   ·rw [List.mem_singleton] at hx
    subst hx
    exact ⟨hi, _, by rw [vw_link]; exact hv, by assumption⟩
  ·rcases List.mem_append.1 hx with hx | hx <;> rcases List.mem_append.1 hy with hy | hy
   ·have k1 : ¬ (x.1 = o.1 ∧ x.2.1 = o.2.1) := fun q => hnew y hy (by rw [hxy, hother x hx q.1 q.2])
    have hx3 := (h.vs x hx).1
    rw [nb_link _ _ hi hj hx3, fb_link _ _ hi hj hx3, if_neg k1, if_neg (hpos x hx), if_neg k1, if_neg (hpos x hx)]
    exact h.lk x hx y hy hxy
   ·rw [List.mem_singleton] at hy
    subst hy
    have hxo : x = o := h.uq x hx o ho (by rw [ho1]; exact hre hxy)
    subst hxo
    obtain ⟨z, hz⟩ := vw_nb (k := x.2.1) hov
    obtain ⟨f, hf⟩ := vw_fb (k := x.2.1) hov
    rw [nb_link _ _ hi hj hj, fb_link _ _ hi hj hj, if_pos ⟨rfl, rfl⟩, if_pos ⟨rfl, rfl⟩, hz, hf, ho1, flt_comm]
    exact ⟨rfl, rfl⟩
   ·rw [List.mem_singleton] at hx
    subst hx
    have hyo : y = o := h.uq y hy o ho (by rw [ho1]; exact hxy)
    subst hyo
    obtain ⟨z, hz⟩ := vw_nb (k := i) hv
    obtain ⟨f, hf⟩ := vw_fb (k := i) hv
    rw [nb_link _ _ hi hj hi, fb_link _ _ hi hj hi, if_neg hon, if_pos ⟨rfl, rfl⟩, if_neg hon, if_pos ⟨rfl, rfl⟩, hz, hf]
    exact ⟨rfl, rfl⟩
   ·rw [List.mem_singleton] at hx hy
    subst hx; subst hy
    exact absurd hxy her
  ·rcases List.mem_append.1 hx with hx | hx
   ·rw [mget_mdel_ne]
    ·exact h.op x hx (fun y hy => hno y (List.mem_append_left _ hy))
    ·intro q
     exact hno (n, i, e) (List.mem_append_right _ (.head _)) (by rw [q])
   ·rw [List.mem_singleton] at hx
    subst hx
    exact absurd ho1 (hno o (List.mem_append_left _ ho))
  ·by_cases q : e' = rev2 e
   ·rw [q, mget_mdel_eq h.kn] at hv'; cases hv'
   ·rw [mget_mdel_ne q] at hv'
    obtain ⟨x, hx1, hx2, hx3, hx4⟩ := h.ex _ _ hv'
    refine ⟨x, List.mem_append_left _ hx1, hx2, hx3, fun y hy => ?_⟩
    rcases List.mem_append.1 hy with hy | hy
    ·exact hx4 y hy
    ·rw [List.mem_singleton] at hy
     subst hy
     exact fun p => q (hre p)
 | none =>
  dsimp only
  have hno : ∀ y, y ∈ E → y.2.2 ≠ rev2 e := by
   intro y hy q
   have := h.op y hy (fun z hz p => hnew z hz (by rw [p, q]))
   rw [q, hm] at this
   cases this
  refine ⟨mput_keys h.kn, fun x hx => ?_, nen, uqn, fun x hx y hy hxy => ?_, fun x hx hno' => ?_, fun e' v hv' => ?_⟩
  ·rcases List.mem_append.1 hx with hx | hx
   ·exact h.vs x hx
   ·rw [List.mem_singleton] at hx
    subst hx
    exact ⟨hi, _, hv, by assumption⟩
  ·rcases List.mem_append.1 hx with hx | hx <;> rcases List.mem_append.1 hy with hy | hy
   ·exact h.lk x hx y hy hxy
   ·rw [List.mem_singleton] at hy
    subst hy
    exact absurd (hre hxy) (hno x hx)
   ·rw [List.mem_singleton] at hx
    subst hx
    exact absurd hxy (hno y hy)
   ·rw [List.mem_singleton] at hx hy
    subst hx; subst hy
    exact absurd hxy her
  ·rcases List.mem_append.1 hx with hx | hx
   ·rw [mget_mput, if_neg (hnew x hx)]
    exact h.op x hx (fun y hy => hno' y (List.mem_append_left _ hy))
   ·rw [List.mem_singleton] at hx
    subst hx
    rw [mget_mput, if_pos rfl]
  ·rw [mget_mput] at hv'
   split at hv'
   ·rename_i q
    cases hv'
    refine ⟨(n, i, e), List.mem_append_right _ (.head _), q.symm, rfl, fun y hy => ?_⟩
    rw [q]
    rcases List.mem_append.1 hy with hy | hy
    ·exact hno y hy
    ·rw [List.mem_singleton] at hy; subst hy; exact her
   ·obtain ⟨x, hx1, hx2, hx3, hx4⟩ := h.ex _ _ hv'
    refine ⟨x, List.mem_append_left _ hx1, hx2, hx3, fun y hy => ?_⟩
    rcases List.mem_append.1 hy with hy | hy
    ·exact hx4 y hy
    ·rw [List.mem_singleton] at hy
     subst hy
     intro p
     rw [hre p, hm] at hv'
     cases hv'
def eds (v : Int × Int × Int) : List (Int × Int) := [kv v 0, kv v 1, kv v 2]
def slots (x : Nat × (Int × Int × Int)) : List Slot := [(x.1, 0, kv x.2 0), (x.1, 1, kv x.2 1), (x.1, 2, kv x.2 2)]
def dist3 (v : Int × Int × Int) : Prop := v.1 ≠ v.2.1 ∧ v.2.1 ≠ v.2.2 ∧ v.2.2 ≠ v.1
instance (v : Int × Int × Int) : Decidable (dist3 v) := inferInstanceAs (Decidable (_ ∧ _))
theorem joinE_same (F : MapI) (n : Nat) (v0 v1 v2 : Int) (s : BS) (i : Nat) : (∀ q, vw (joinE F n v0 v1 v2 s i).M.tris q = vw s.M.tris q) ∧ (joinE F n v0 v1 v2 s i).M.free = s.M.free ∧ (joinE F n v0 v1 v2 s i).M.tris.length = s.M.tris.length ∧ (joinE F n v0 v1 v2 s i).M.ats = s.M.ats ∧ (joinE F n v0 v1 v2 s i).M.pts = s.M.pts := by
 unfold joinE
 split
 ·exact ⟨fun q => vw_link .., rfl, link_len .., rfl, rfl⟩
 ·exact ⟨fun _ => rfl, rfl, rfl, rfl, rfl⟩
theorem joinB_same (F : MapI) (n : Nat) (v0 v1 v2 : Int) (s : BS) : (∀ q, vw (joinB F n v0 v1 v2 s).M.tris q = vw s.M.tris q) ∧ (joinB F n v0 v1 v2 s).M.free = s.M.free ∧ (joinB F n v0 v1 v2 s).M.tris.length = s.M.tris.length ∧ (joinB F n v0 v1 v2 s).M.ats = s.M.ats ∧ (joinB F n v0 v1 v2 s).M.pts = s.M.pts := by
 show (∀ q, vw (joinE F n v0 v1 v2 (joinE F n v0 v1 v2 (joinE F n v0 v1 v2 s 0) 1) 2).M.tris q = _) ∧ (joinE F n v0 v1 v2 (joinE F n v0 v1 v2 (joinE F n v0 v1 v2 s 0) 1) 2).M.free = _ ∧ (joinE F n v0 v1 v2 (joinE F n v0 v1 v2 (joinE F n v0 v1 v2 s 0) 1) 2).M.tris.length = _ ∧ (joinE F n v0 v1 v2 (joinE F n v0 v1 v2 (joinE F n v0 v1 v2 s 0) 1) 2).M.ats = _ ∧ (joinE F n v0 v1 v2 (joinE F n v0 v1 v2 (joinE F n v0 v1 v2 s 0) 1) 2).M.pts = _
 obtain ⟨a1, a2, a3, a4, a5⟩ := joinE_same F n v0 v1 v2 s 0
 obtain ⟨b1, b2, b3, b4, b5⟩ := joinE_same F n v0 v1 v2 (joinE F n v0 v1 v2 s 0) 1
 obtain ⟨c1, c2, c3, c4, c5⟩ := joinE_same F n v0 v1 v2 (joinE F n v0 v1 v2 (joinE F n v0 v1 v2 s 0) 1) 2
 exact ⟨fun q => (c1 q).trans ((b1 q).trans (a1 q)), c2.trans (b2.trans a2), c3.trans (b3.trans a3), c4.trans (b4.trans a4), c5.trans (b5.trans a5)⟩
theorem SI.joinB {F : MapI} {s : BS} {E : List Slot} {n : Nat} {v : Int × Int × Int} (h : SI F s E) (hv : vw s.M.tris n = some v) (hd : dist3 v) (hnew : ∀ e, e ∈ eds v → ∀ x, x ∈ E → x.2.2 ≠ e) : SI F (joinB F n v.1 v.2.1 v.2.2 s) (E ++ slots (n, v)) := by
 obtain ⟨v0, v1, v2⟩ := v
 obtain ⟨d1, d2, d3⟩ := hd
 dsimp only at d1 d2 d3
 have h0 := h.join (n := n) (i := 0) (by decide) hv d2 (hnew _ (.head _))
 obtain ⟨a1, _⟩ := joinE_same F n v0 v1 v2 s 0
 have h1 := h0.join (n := n) (i := 1) (by decide) ((a1 n).trans hv) d3 (fun x hx => by
  rcases List.mem_append.1 hx with hx | hx
  ·exact hnew _ (.tail _ (.head _)) x hx
  ·rw [List.mem_singleton] at hx
   subst hx
   intro q
   exact d3 (congrArg Prod.snd q))
 obtain ⟨b1, _⟩ := joinE_same F n v0 v1 v2 (joinE F n v0 v1 v2 s 0) 1
 have h2 := h1.join (n := n) (i := 2) (by decide) ((b1 n).trans ((a1 n).trans hv)) d1 (fun x hx => by
  rcases List.mem_append.1 hx with hx | hx
  ·rcases List.mem_append.1 hx with hx | hx
   ·exact hnew _ (.tail _ (.tail _ (.head _))) x hx
   ·rw [List.mem_singleton] at hx
    subst hx
    intro q
    exact d1 (congrArg Prod.fst q).symm
  ·rw [List.mem_singleton] at hx
   subst hx
   intro q
   exact d3 (congrArg Prod.fst q))
 rw [List.append_assoc, List.append_assoc] at h2
 exact h2
theorem SI.make {F : MapI} {M : MD} {L : MapO} {c : Nat} {E : List Slot} {v0 v1 v2 : Int} (h : SI F ⟨M, L, c⟩ E) (fr : ∀ k, k ∈ M.free → 0 ≤ k ∧ k < M.tris.length) (hn : ∀ x, x ∈ E → x.1 ≠ M.nextN.toNat) : SI F ⟨M.make v0 v1 v2, L, c⟩ E where
 kn := h.kn
 vs := fun x hx => by
  obtain ⟨a1, v, a2, a3⟩ := h.vs x hx
  exact ⟨a1, v, by dsimp only; rw [vw_make _ _ _ _ fr, if_neg (hn x hx)]; exact a2, a3⟩
 ne := h.ne
 uq := h.uq
 lk := fun x hx y hy hxy => by
  dsimp only
  rw [nb_make _ _ _ _ _ _ (hn x hx), fb_make _ _ _ _ _ _ (hn x hx)]
  exact h.lk x hx y hy hxy
 op := h.op
 ex := h.ex
def has3 (p : Int) (v : Int × Int × Int) : Prop := p = v.1 ∨ p = v.2.1 ∨ p = v.2.2
instance (p : Int) (v : Int × Int × Int) : Decidable (has3 p v) := inferInstanceAs (Decidable (_ ∨ _))
structure SM (F : MapI) (s : BS) (V : List (Nat × (Int × Int × Int))) : Prop where
 si : SI F s (V.flatMap slots)
 vs : ∀ x, x ∈ V → vw s.M.tris x.1 = some x.2
 fr : ∀ k, k ∈ s.M.free → 0 ≤ k ∧ k < s.M.tris.length
 fn : s.M.free.Nodup
 nf : ∀ x, x ∈ V → ¬ (x.1 : Int) ∈ s.M.free
 all : ∀ q v, vw s.M.tris q = some v → (q : Int) ∈ s.M.free ∨ (q, v) ∈ V
 gn : ∀ k, k ∈ s.M.free → vw s.M.tris k.toNat = some (-2, -2, -2)
 at_ : ∀ x, x ∈ V → ∀ p, has3 p x.2 → 0 ≤ p → p < s.M.ats.length → ∃ y, y ∈ V ∧ s.M.ats[p.toNat]? = some (y.1 : Int) ∧ has3 p y.2
theorem setAt_get {l : List Int} {v n p : Int} (h0 : 0 ≤ p) (h1 : p < l.length) : (setAt l v n)[p.toNat]? = if v = p then some n else l[p.toNat]? := by
 unfold setAt
 split
 ·rw [List.getElem?_set]
  by_cases q : v = p
  ·subst q; rw [if_pos rfl, if_pos (by omega), if_pos rfl]
  ·rw [if_neg (by omega), if_neg q]
 ·rw [if_neg (by omega)]
theorem eds_slots {E : List (Nat × (Int × Int × Int))} {y : Slot} (h : y ∈ E.flatMap slots) : ∃ x, x ∈ E ∧ y.1 = x.1 ∧ y.2.2 ∈ eds x.2 ∧ y.2.1 < 3 ∧ y.2.2 = kv x.2 y.2.1 := by
 obtain ⟨x, hx, hy⟩ := List.mem_flatMap.1 h
 refine ⟨x, hx, ?_⟩
 simp only [slots, List.mem_cons, List.not_mem_nil, or_false] at hy
 rcases hy with rfl | rfl | rfl
 ·exact ⟨rfl, .head _, (by decide : (0 : Nat) < 3), rfl⟩
 ·exact ⟨rfl, .tail _ (.head _), (by decide : (1 : Nat) < 3), rfl⟩
 ·exact ⟨rfl, .tail _ (.tail _ (.head _)), (by decide : (2 : Nat) < 3), rfl⟩
theorem slot_mem {V : List (Nat × (Int × Int × Int))} {x : Nat × (Int × Int × Int)} {k : Nat} (hx : x ∈ V) (hk : k < 3) : ((x.1, k, kv x.2 k) : Slot) ∈ V.flatMap slots := by
 refine List.mem_flatMap.2 ⟨x, hx, ?_⟩
 match k, hk with
 | 0, _ => exact .head _
 | 1, _ => exact .tail _ (.head _)
 | 2, _ => exact .tail _ (.tail _ (.head _))
theorem SM.step {F : MapI} {s : BS} {V : List (Nat × (Int × Int × Int))} {v : Int × Int × Int} (h : SM F s V) (hd : dist3 v) (hnew : ∀ e, e ∈ eds v → ∀ y, y ∈ V → ¬ e ∈ eds y.2) : SM F (stepT F s v) (V ++ [(s.M.nextN.toNat, v)]) := by
 have hu : ∀ x, x ∈ V → x.1 ≠ s.M.nextN.toNat := by
  intro x hx q
  have hlt := vw_lt (h.vs x hx)
  rcases next_or h.fr with ⟨p1, p2, _⟩ | ⟨_, p⟩
  ·exact h.nf x hx (by rw [q, Int.toNat_of_nonneg p2]; exact p1)
  ·rw [p] at q; omega
 have hE : ∀ x, x ∈ V.flatMap slots → x.1 ≠ s.M.nextN.toNat := by
  intro x hx
  obtain ⟨y, hy, e, _⟩ := eds_slots hx
  rw [e]; exact hu y hy
 have hm := SI.make (v0 := v.1) (v1 := v.2.1) (v2 := v.2.2) h.si h.fr hE
 have hvw : vw (s.M.make v.1 v.2.1 v.2.2).tris s.M.nextN.toNat = some v := by rw [vw_make _ _ _ _ h.fr, if_pos rfl]
 have hj := hm.joinB (n := s.M.nextN.toNat) (v := v) hvw hd (fun e he x hx q => by
  obtain ⟨y, hy, _, h2, _⟩ := eds_slots hx
  exact hnew e he y hy (q ▸ h2))
 obtain ⟨j1, j2, j3, j4, j5⟩ := joinB_same F s.M.nextN.toNat v.1 v.2.1 v.2.2 ⟨s.M.make v.1 v.2.1 v.2.2, s.L, s.c⟩
 have hvq : ∀ q, vw (stepT F s v).M.tris q = if q = s.M.nextN.toNat then some v else vw s.M.tris q := fun q => (j1 q).trans (vw_make _ _ _ _ h.fr q)
 have hfree : (stepT F s v).M.free = s.M.free.dropLast := j2
 have hats : (stepT F s v).M.ats = setAt (setAt (setAt s.M.ats v.1 s.M.nextN) v.2.1 s.M.nextN) v.2.2 s.M.nextN := j4
 have hN : ((s.M.nextN.toNat : Nat) : Int) = s.M.nextN := by
  rcases next_or h.fr with ⟨_, p2, _⟩ | ⟨_, p⟩
  ·exact Int.toNat_of_nonneg p2
  ·rw [p]; simp
 refine ⟨?_, fun x hx => ?_, fun k hk => ?_, ?_, fun x hx => ?_, fun q w hq => ?_, fun k hk => ?_, fun x hx p hp h0 h1 => ?_⟩
 ·rw [List.flatMap_append, List.flatMap_cons, List.flatMap_nil, List.append_nil]; exact hj
 ·rw [hvq]
  rcases List.mem_append.1 hx with hx | hx
  ·rw [if_neg (hu x hx)]; exact h.vs x hx
  ·rw [List.mem_singleton] at hx; subst hx; rw [if_pos rfl]
 ·rw [hfree] at hk
  have := h.fr k (List.dropLast_subset _ hk)
  have h2 := make_len_ge s.M v.1 v.2.1 v.2.2
  refine ⟨this.1, ?_⟩
  rw [show (stepT F s v).M.tris.length = (s.M.make v.1 v.2.1 v.2.2).tris.length from j3]
  omega
 ·rw [hfree]; exact h.fn.sublist (List.dropLast_sublist _)
 ·rw [hfree]
  rcases List.mem_append.1 hx with hx | hx
  ·exact fun q => h.nf x hx (List.dropLast_subset _ q)
  ·rw [List.mem_singleton] at hx
   subst hx
   dsimp only
   rw [hN]
   rcases next_drop h.fn with q | q
   ·exact q
   ·rw [q]; exact List.not_mem_nil
 ·rw [hvq] at hq
  split at hq
  ·rename_i e
   cases hq
   exact .inr (List.mem_append_right _ (by rw [e]; exact .head _))
  ·rename_i e
   rcases h.all q w hq with p | p
   ·rw [hfree]
    rcases next_or h.fr with ⟨_, _, p3⟩ | ⟨p3, _⟩
    ·rcases p3 _ p with p4 | p4
     ·exact absurd (by rw [← p4]; simp) e
     ·exact .inl p4
    ·rw [p3] at p; cases p
   ·exact .inr (List.mem_append_left _ p)
 ·rw [hfree] at hk
  have hk0 := h.fr k (List.dropLast_subset _ hk)
  rw [hvq, if_neg, h.gn k (List.dropLast_subset _ hk)]
  intro q
  have : k = s.M.nextN := by rw [← hN, ← q]; omega
  rcases next_drop h.fn with p | p
  ·exact p (this ▸ hk)
  ·rw [p] at hk; cases hk
 ·rw [hats] at h1 ⊢
  rw [setAt_len, setAt_len, setAt_len] at h1
  rw [setAt_get h0 (by rw [setAt_len, setAt_len]; exact h1), setAt_get h0 (by rw [setAt_len]; exact h1), setAt_get h0 h1]
  by_cases hpv : has3 p v
  ·refine ⟨(s.M.nextN.toNat, v), List.mem_append_right _ (.head _), ?_, hpv⟩
   rw [hN]
   rcases hpv with q | q | q
   ·rw [if_pos q.symm]; (repeat' split) <;> rfl
   ·rw [if_pos q.symm]; (repeat' split) <;> rfl
   ·rw [if_pos q.symm]
  ·rw [if_neg (fun q => hpv (.inr (.inr q.symm))), if_neg (fun q => hpv (.inr (.inl q.symm))), if_neg (fun q => hpv (.inl q.symm))]
   rcases List.mem_append.1 hx with hx | hx
   ·obtain ⟨y, y1, y2, y3⟩ := h.at_ x hx p hp h0 h1
    exact ⟨y, List.mem_append_left _ y1, y2, y3⟩
   ·rw [List.mem_singleton] at hx
    subst hx
    exact absurd hp hpv
end Go.Proofs.Ytbanlhlggkdanaa
namespace Go.Proofs.Ytbanlhlggkdanaa
open Go.RowKit
section
variable {κ ν : Type} [DecidableEq κ]
def ment (k : κ) (z : ν) (l : List (κ × ν × Nat)) (c : Nat) : List (κ × ν × Nat) := match mfind k l 0 with
 | some _ => l
 | none => l ++ [(k, z, c)]
def mborn (k : κ) (l : List (κ × ν × Nat)) (c : Nat) : Nat := match mfind k l 0 with
 | some (i, _) => ((l[i]?).map (·.2.2)).getD 0
 | none => c
def mset (b : Nat) (v : ν) (l : List (κ × ν × Nat)) : List (κ × ν × Nat) := match l.findIdx? (fun e => e.2.2 == b) with
 | some i => l.modify i (fun e => (e.1, v, e.2.2))
 | none => l
theorem find_born : ∀ {l : List (κ × ν × Nat)} {j : Nat} {e : κ × ν × Nat}, (l.map (·.2.2)).Nodup → l[j]? = some e → l.findIdx? (fun x => x.2.2 == e.2.2) = some j
 | x :: l, 0, e, hn, h => by
  simp at h
  subst h
  simp [List.findIdx?_cons]
 | x :: l, j + 1, e, hn, h => by
  rw [List.map_cons, List.nodup_cons] at hn
  simp at h
  have hne : x.2.2 ≠ e.2.2 := fun q => hn.1 (List.mem_map.2 ⟨e, List.mem_of_getElem? h, q.symm⟩)
  rw [List.findIdx?_cons, show (x.2.2 == e.2.2) = false by simpa using hne]
  simp [find_born hn.2 h]
theorem entry_mput {k : κ} {z v : ν} {l : List (κ × ν × Nat)} {c : Nat} (hn : (l.map (·.2.2)).Nodup) (hc : ∀ e, e ∈ l → e.2.2 < c) :
  mset (mborn k l c) v (ment k z l c) = mput k v l c ∧ ((ment k z l c).findIdx? (fun e => e.2.2 == mborn k l c)).isSome = true := by
 unfold mset mborn ment mput
 cases hf : mfind k l 0 with
 | none =>
  dsimp only
  have hz : (l ++ [(k, z, c)]).findIdx? (fun e => e.2.2 == c) = some l.length := by
   have := find_born (l := l ++ [(k, z, c)]) (j := l.length) (e := (k, z, c)) (by
    rw [List.map_append, List.nodup_append]
    refine ⟨hn, by simp, ?_⟩
    intro a ha b hb q
    obtain ⟨e, he, rfl⟩ := List.mem_map.1 ha
    simp at hb
    subst hb
    have := hc e he
    omega) (by simp)
   exact this
  rw [hz]
  refine ⟨?_, rfl⟩
  dsimp only
  apply List.ext_getElem?
  intro j
  rw [List.getElem?_modify, List.getElem?_append, List.getElem?_append]
  by_cases h1 : j < l.length
  ·rw [if_pos h1, if_pos h1]
   have : ¬ l.length = j := by omega
   simp [this]
  ·rw [if_neg h1, if_neg h1]
   by_cases h2 : l.length = j
   ·subst h2; simp
   ·have : ([(k, z, c)] : List (κ × ν × Nat))[j - l.length]? = none := List.getElem?_eq_none (by simp; omega)
    have h3 : ([(k, v, c)] : List (κ × ν × Nat))[j - l.length]? = none := List.getElem?_eq_none (by simp; omega)
    rw [this, h3]; simp
 | some p =>
  obtain ⟨i, v0⟩ := p
  obtain ⟨_, e, he, hek, _⟩ := mfind_key hf
  simp only [Nat.sub_zero] at he
  dsimp only
  rw [he]
  dsimp only [Option.map_some, Option.getD_some]
  rw [find_born hn he]
  exact ⟨rfl, rfl⟩
theorem mget_ment {k : κ} {z : ν} {l : List (κ × ν × Nat)} {c : Nat} (h : mget k l = none) : ∀ g : ν → Value, ((mget k (ment k z l c)).map g).getD (g z) = ((mget k l).map g).getD (g z) := fun g => by
 have hf : mfind k l 0 = none := by
  unfold mget at h
  cases hf : mfind k l 0 with
  | none => rfl
  | some p => rw [hf] at h; cases h
 have key : ∀ (l : List (κ × ν × Nat)) (b : Nat), mfind k l b = none → mfind k (l ++ [(k, z, c)]) b = some (b + l.length, z) := by
  intro l
  induction l with
  | nil => intro b _; simp [mfind]
  | cons x l ih =>
   intro b hb
   unfold mfind at hb ⊢
   split at hb
   ·cases hb
   ·rename_i hx
    rw [List.cons_append]
    dsimp only
    rw [if_neg hx, ih _ hb]
    simp; omega
 have e1 : mget k (ment k z l c) = some z := by
  unfold ment
  rw [hf]
  dsimp only
  unfold mget
  rw [key l 0 hf]
  rfl
 rw [e1, h]
 rfl
end
section
variable {E : Env} {Q : Qt} {σ : List (Nat × Value)} {μ φ ml pl : List Res} {ops : Array Oper} {fuel : Nat} {listed : Array Bool} {ty : TypeId} {pos : String} {af : Array Edge} {gd : Option (Nat × Bool)} {d : Tmp}
variable {κ ν : Type} [DecidableEq κ] {f : κ → Value} {g : ν → Value} {l : List (κ × ν × Nat)} {c r : Nat}
theorem OJ_y {op : Op} {v : Value} (hy : YJ E op ty σ μ φ v) : OJ E op ty σ μ φ (fun v' μ' φ' => v' = v ∧ μ' = μ ∧ φ' = φ) := fun a w d pos af g K Q hs hm hK => by
 unfold Oper.wp
 rw [hy a w d pos af g hs hm.hold.1 hm.hold.2, Oper.upon_value]
 exact hK _ _ _ _ ⟨rfl, rfl, rfl⟩ hm
theorem OJ_mapEntry {t kt et : TypeId} {x y : Operand} {k : κ} {z : ν} (n : Nat) (hk : μ[n]? = some (mapR r f g l c)) (hx : oev σ x = some (.map (some r))) (hy : oev σ y = some (f k)) (hu : E.P.underlying t = some (.map kt et)) (hK : KeyT E.P kt f) (hz : zer E.P et = some (g z)) :
  OJ E (.mapEntry t x y) ty σ μ φ (fun v μ' φ' => v = .tuple #[((mget k l).map g).getD (g z), .int .i64 (mborn k l c : Nat)] ∧ μ' = μ.set n (mapR r f g (ment k z l c) (mclk k l c)) ∧ φ' = φ) := by
 refine OJ_conv (OJ_putObj (o' := .map ((ment k z l c).map (entV f g)).toArray (mclk k l c)) hk (nx := .value (.tuple #[((mget k l).map g).getD (g z), .int .i64 (mborn k l c : Nat)])) (v := .tuple #[((mget k l).map g).getD (g z), .int .i64 (mborn k l c : Nat)]) (.inr rfl) ?_) (fun u μ' φ' h => ⟨_, ⟨h.1 rfl, h.2.1, h.2.2⟩, List.Perm.refl _⟩)
 intro a w d pos af gd hs hm hb
 have h1 := hK.chk false k w
 have h2 := hK.find g k l w
 simp only [execOp, hs.ev hx, hs.ev hy]
 simp only [Instr.mapEntry, Sem.run_bind, run_underlying hu, Result.andThen_ok, MapKept.run_getObj_map hb, h1, h2]
 unfold ment mclk mborn mget
 cases hf : mfind k l 0 with
 | none =>
  simp only [Option.map_none, run_zeroValue' hz, Result.andThen_ok, Sem.run_bind, MapKept.run_setObj_map _ hb]
  simp [World.putObj, entV, goInt]
 | some p =>
  obtain ⟨i, v0⟩ := p
  obtain ⟨_, e, he, hek, _⟩ := mfind_key hf
  simp only [Nat.sub_zero] at he
  have hkey : ((((l.map (entV f g)).toArray)[i]?).map (·.key)).getD (f k) = f k := by
   simp [he, entV, hek]
  have hks : (Instr.keyThatStays (f k) (f k)).run E.P w = .ok (f k) w := by
   unfold Instr.keyThatStays
   simp [hK.same k]
  have hmod : (l.map (entV f g)).toArray.modify i (fun q => { q with key := f k }) = (l.map (entV f g)).toArray := by
   apply Array.toList_inj.1
   apply List.ext_getElem?
   intro j
   simp only [Array.toList_modify, List.getElem?_modify, List.getElem?_map]
   by_cases hj : i = j
   ·subst hj
    simp [he, entV, hek]
   ·simp [hj]
  simp only [Option.map_some, Sem.run_bind, hkey, hks, Result.andThen_ok, MapKept.run_setObj_map _ hb]
  simp only [World.putObj, hmod]
  simp [he, entV, goInt]
theorem OJ_entryStore {t : TypeId} {x y z : Operand} {b : Nat} {v : ν} {l' : List (κ × ν × Nat)} (n : Nat) (hk : μ[n]? = some (mapR r f g l c)) (hx : oev σ x = some (.map (some r))) (hy : oev σ y = some (.int .i64 (b : Nat))) (hz : oev σ z = some (g v))
  (hf : (l.findIdx? (fun e => e.2.2 == b)).isSome = true) (hl : mset b v l = l') : OJ E (.entryStore t x y z) ty σ μ φ (fun _ μ' φ' => μ' = μ.set n (mapR r f g l' c) ∧ φ' = φ) := by
 subst hl
 refine OJ_conv (OJ_putObj (o' := .map ((mset b v l).map (entV f g)).toArray c) hk (nx := .skip) (v := undef) (.inl rfl) ?_) (fun u μ' φ' h => ⟨_, ⟨h.2.1, h.2.2⟩, List.Perm.refl _⟩)
 intro a w d pos af gd hs hm hb
 obtain ⟨i, hi⟩ := Option.isSome_iff_exists.1 hf
 have hidx : (l.map (entV f g)).toArray.findIdx? (fun e => ((e.born : Nat) : Int) == ((b : Nat) : Int)) = some i := by
  rw [← hi]
  simp only [List.findIdx?_toArray, List.findIdx?_map]
  congr 1
  funext e
  show (((e.2.2 : Nat) : Int) == ((b : Nat) : Int)) = (e.2.2 == b)
  by_cases q : e.2.2 = b
  ·subst q; simp
  ·rw [beq_eq_false_iff_ne.2 q, beq_eq_false_iff_ne.2 (by omega)]
 have hmod : (l.map (entV f g)).toArray.modify i (fun q => { q with val := g v }) = ((l.modify i (fun e => (e.1, v, e.2.2))).map (entV f g)).toArray := by
  apply Array.toList_inj.1
  apply List.ext_getElem?
  intro j
  simp only [Array.toList_modify, List.getElem?_modify, List.getElem?_map]
  cases l[j]? with
  | none => simp
  | some e => by_cases hj : i = j <;> simp [hj, entV]
 simp only [execOp, hs.ev hx, hs.ev hy, hs.ev hz]
 unfold mset
 rw [hi]
 simp only [Instr.entryStore, Sem.run_bind, Sem.run_pure, Result.andThen_ok, MapKept.run_getObj_map hb, asInt, asIntOf, hidx, MapKept.run_setObj_map _ hb]
 simp only [World.putObj, hmod]
theorem AJ_mapEntry {t kt et : TypeId} {x y : Operand} {k : κ} {z : ν} (i n : Nat) (hi : ops[i]? = some ⟨some d, .mapEntry t x y, ty, pos, af, gd⟩) (hr : Region.ready .any ops listed = [i]) (hg : grd ops σ gd = some true) (hd : Nat.blt d E.N = true) (hk : μ[n]? = some (mapR r f g l c)) (hx : oev σ x = some (.map (some r))) (hy : oev σ y = some (f k)) (hu : E.P.underlying t = some (.map kt et)) (hK : KeyT E.P kt f) (hz : zer E.P et = some (g z))
  (hml : ∀ q, q ∈ ml → q ∈ μ.set n (mapR r f g (ment k z l c) (mclk k l c))) (h : AJ E Q ops ml pl fuel (listed.setIfInBounds i true) ((d, .tuple #[((mget k l).map g).getD (g z), .int .i64 (mborn k l c : Nat)]) :: σ) (μ.set n (mapR r f g (ment k z l c) (mclk k l c))) φ) : AJ E Q ops ml pl (fuel + 1) listed σ μ φ :=
 AJ_o i hi hr hg hd (OJ_mapEntry n hk hx hy hu hK hz) (by rintro _ _ _ ⟨rfl, rfl, rfl⟩; exact ⟨fun q hq _ => hml q hq, fun _ _ h => h, h⟩)
theorem AJ_entryStore {t : TypeId} {x y z : Operand} {b : Nat} {v : ν} {l' : List (κ × ν × Nat)} (i n : Nat) (hi : ops[i]? = some ⟨none, .entryStore t x y z, ty, pos, af, gd⟩) (hr : Region.ready .any ops listed = [i]) (hg : grd ops σ gd = some true) (hk : μ[n]? = some (mapR r f g l c)) (hx : oev σ x = some (.map (some r))) (hy : oev σ y = some (.int .i64 (b : Nat))) (hz : oev σ z = some (g v))
  (hf : (l.findIdx? (fun e => e.2.2 == b)).isSome = true) (hl : mset b v l = l') (hml : ∀ q, q ∈ ml → q ∈ μ.set n (mapR r f g l' c)) (h : AJ E Q ops ml pl fuel (listed.setIfInBounds i true) σ (μ.set n (mapR r f g l' c)) φ) : AJ E Q ops ml pl (fuel + 1) listed σ μ φ :=
 AJ_o0 i hi hr hg (OJ_entryStore n hk hx hy hz hf hl) (by rintro _ _ _ ⟨rfl, rfl⟩; exact ⟨fun _ => hml, fun _ _ h => h, h⟩)
theorem AJ_yo (i : Nat) {op : Op} {v : Value} (hi : ops[i]? = some ⟨some d, op, ty, pos, af, gd⟩) (hr : Region.ready .any ops listed = [i]) (hg : grd ops σ gd = some true) (hd : Nat.blt d E.N = true) (hy : YJ E op ty σ μ φ v)
  (h : AJ E Q ops ml pl fuel (listed.setIfInBounds i true) ((d, v) :: σ) μ φ) : AJ E Q ops ml pl (fuel + 1) listed σ μ φ :=
 AJ_o i hi hr hg hd (OJ_y hy) (by rintro _ _ _ ⟨rfl, rfl, rfl⟩; exact ⟨fun _ _ h => h, fun _ _ h => h, h⟩)
theorem AJ_two (i j : Nat) {d2 : Tmp} {op1 op2 : Op} {ty2 : TypeId} {pos2 : String} {af2 : Array Edge} {gd2 : Option (Nat × Bool)} {X1 X2 : Value → List Res → List Res → Prop}
  (hi : ops[i]? = some ⟨some d, op1, ty, pos, af, gd⟩) (hj : ops[j]? = some ⟨some d2, op2, ty2, pos2, af2, gd2⟩) (hr : Region.ready .any ops listed = [i, j]) (hg1 : grd ops σ gd = some true) (hg2 : grd ops σ gd2 = some true) (hd1 : Nat.blt d E.N = true) (hd2 : Nat.blt d2 E.N = true) (ho1 : OJ E op1 ty σ μ φ X1) (ho2 : OJ E op2 ty2 σ μ φ X2)
  (h1 : ∀ v μ' φ', X1 v μ' φ' → (∀ r, r ∈ ml → r ∈ μ → r ∈ μ') ∧ (∀ r, r ∈ pl → r ∈ φ → r ∈ φ') ∧ AJ E Q ops ml pl fuel (listed.setIfInBounds i true) ((d, v) :: σ) μ' φ')
  (h2 : ∀ v μ' φ', X2 v μ' φ' → (∀ r, r ∈ ml → r ∈ μ → r ∈ μ') ∧ (∀ r, r ∈ pl → r ∈ φ → r ∈ φ') ∧ AJ E Q ops ml pl fuel (listed.setIfInBounds j true) ((d2, v) :: σ) μ' φ') : AJ E Q ops ml pl (fuel + 1) listed σ μ φ := fun hs hQ hm hp a w ha hmem =>
 wpAnyH_all hr (by simp) fun q hq => by
  have hqq : q = i ∨ q = j := by simpa using hq
  unfold wpOp
  rcases hqq with rfl | rfl
  ·rw [hi]
   dsimp only
   rw [if_pos (grd_wanted (o := ⟨some d, op1, ty, pos, af, gd⟩) ha hg1)]
   refine .inl (ho1 a w _ _ _ _ _ _ ha.slots hmem fun v μ' φ' w' hx hm' => ?_)
   obtain ⟨k1, k2, k3⟩ := h1 v μ' φ' hx
   have e1 : ∀ r, r ∈ ml → r ∈ μ' := fun r hr => k1 r hr (hm r hr)
   have e2 : ∀ r, r ∈ pl → r ∈ φ' := fun r hr => k2 r hr (hp r hr)
   exact ⟨⟨hm'.hold.1.sub e1, hm'.hold.2.sub e2⟩, k3 hs hQ e1 e2 _ _ (ha.put hd1 v) hm'⟩
  ·rw [hj]
   dsimp only
   rw [if_pos (grd_wanted (o := ⟨some d2, op2, ty2, pos2, af2, gd2⟩) ha hg2)]
   refine .inl (ho2 a w _ _ _ _ _ _ ha.slots hmem fun v μ' φ' w' hx hm' => ?_)
   obtain ⟨k1, k2, k3⟩ := h2 v μ' φ' hx
   have e1 : ∀ r, r ∈ ml → r ∈ μ' := fun r hr => k1 r hr (hm r hr)
   have e2 : ∀ r, r ∈ pl → r ∈ φ' := fun r hr => k2 r hr (hp r hr)
   exact ⟨⟨hm'.hold.1.sub e1, hm'.hold.2.sub e2⟩, k3 hs hQ e1 e2 _ _ (ha.put hd2 v) hm'⟩
end
end Go.Proofs.Ytbanlhlggkdanaa
namespace Go.Proofs.Ytbanlhlggkdanaa
open Go.RowKit
section
variable {E : Env} {ty : TypeId} {σ : List (Nat × Value)} {μ φ : List Res}
theorem YJ_sliceArr {xt e : TypeId} {x : Operand} {ad : Addr} {n size : Nat} (hx : oev σ x = some (.pointer (some ad))) (he : arrt E.P xt = some (n, e, size)) :
  YJ E (.slice xt x none none none) ty σ μ φ (.slice (some ad) n n) := fun ac w _ _ _ _ hs _ _ => by
 unfold arrt at he
 cases hu : E.P.underlying xt with
 | none => rw [hu] at he; simp at he
 | some d =>
  rw [hu] at he
  cases d <;> simp at he
  rename_i n' e'
  obtain ⟨i', hi, rfl, rfl, rfl⟩ := he
  simp only [execOp, Option.map_none, hs.ev hx]
  simp [Instr.sliceAt, run_underlying hu, sizeOf, typeInfo, hi, Instr.sureAddr, Instr.sliceBounds, Addr.add]
theorem cellsR_head {b n : Nat} {cs : Array Value} {t : TypeId} {xs : List Value} (hn : xs.length = n) (h0 : 0 < n) (hx : cs.toList.take n = xs) (w : World) (S : Nat → Prop) (h : (cellsR b cs t).p w S) : ∃ S', (sliceR 1 (some ⟨b, 0, none⟩) n xs).p w S' ∧ ∀ k, S' k → S k := by
 obtain ⟨hb, hS⟩ := h
 refine ⟨S, ⟨by simpa using hn, ?_⟩, fun k hk => hk⟩
 rw [if_neg (by omega)]
 refine ⟨_, rfl, hS, fun j v hj => ?_⟩
 rw [Addr.add_lit, cell_of_row w b (0 + j) cs t (0, 0) hb]
 rw [← hx, List.getElem?_take] at hj
 split at hj
 ·simpa using hj
 ·cases hj
theorem Tri_of_callsF {P : Program} {f : FuncId} {args : List Value} {v : Value} (hE : Enter P f = true) (h : ∀ w T, Fac w φ T → Calls P f args.toArray w fun e w' => e = .returned v ∧ w' = w) : Tri P f args [] φ (Ret0 v) :=
 ⟨hE, fun w S T hS hF hd hlt => (h w T hF).mono fun _ _ ⟨he, hw⟩ => by
  subst hw
  exact ⟨v, [], [], he, ⟨rfl, rfl, rfl⟩, Keeps.refl _ _, S, T, hS, (fun r hr => nomatch hr), hd, fun k hk => Or.inl hk, fun k hk => Or.inl hk, hlt⟩⟩
end
end Go.Proofs.Ytbanlhlggkdanaa
namespace Go.Proofs.Ytbanlhlggkdanaa
open Go.RowKit
theorem ent_68 : Enter Try.prog 68 = true := by kernel_rfl
theorem ent_87 : Enter Try.prog 87 = true := by kernel_rfl
theorem index_c {b n : Nat} {xs : List Int} {x : Int} (hn : xs.length = n) (h0 : 0 < n) (h1 : n ≤ 1073741824) : Tri Try.prog 72 [.slice (some ⟨b, 0, none⟩) n n, .int .i64 x] [] [sliceR 1 (some ⟨b, 0, none⟩) n (Iv xs)] (Ret0 (.int .i64 (Lib.idxOf xs x))) := by
 refine Tri_of_callsF (by kernel_rfl) fun w T hF => ?_
 obtain ⟨S, hp, _⟩ := hF _ (.head _)
 have := Try.slices_Index_int b 0 n n xs x w (by omega) (by omega) (fun j hj => by
  have := sliceR.cell hp (j := j) (v := .int .i64 (xs.getD j 0)) (by rw [Iv, List.getElem?_map, List.getElem?_eq_getElem hj, List.getD_eq_getElem?_getD, List.getElem?_eq_getElem hj]; rfl)
  rw [show (adr (some ⟨b, 0, none⟩) : Addr) = ⟨b, 0, none⟩ from rfl, Addr.add_lit] at this
  exact this)
 rw [List.take_of_length_le (by omega)] at this
 exact this
def plc (t : Tr) (v : Int) : Int := Lib.idxOf [t.v0, t.v1, t.v2] v
theorem trCells_n {l : List Tr} {i k : Nat} {t : Tr} (h : l[i]? = some t) (hk : k < 3) : (trCells l)[i * 9 + (3 + k)]? = some (.int .i64 (t.n k)) := by
 rw [trCells_get h (by omega)]
 match k, hk with
 | 0, _ => rfl
 | 1, _ => rfl
 | 2, _ => rfl
def nxt (tris : List Tr) (v x : Int) : Int := match tris[x.toNat]? with
 | some t => t.n (((plc t v).toNat + 1) % 3)
 | none => -1
def itr (tris : List Tr) (v : Int) : Nat → Int → Int
 | 0, x => x
 | n + 1, x => nxt tris v (itr tris v n x)
structure RndOk (tris : List Tr) (v fr : Int) (n : Nat) : Prop where
 one : 1 ≤ n
 hi : n ≤ tris.length + 1
 no : ∀ j, 0 < j → j < n → itr tris v j fr ≠ fr
 fin : itr tris v n fr = fr ∨ tris.length < n
set_option maxRecDepth 100000 in
set_option maxHeartbeats 1000000 in
theorem place_c {t : Tr} {v : Int} : Tri Try.prog 68 [.agg t.cells.toArray, .int .i64 v] [] [] (Ret0 (.int .i64 (plc t v))) := by
 refine Tri_of (N := 9) Try.func68 rfl ent_68 rfl rfl ?_
 intro w0 S0 T0
 show CJ _ _ _ [(0, _), (1, _)] _ _
 refine CJ_seq ?_
 refine CJ_reg ?_
 refine LJ_box (cs := #[_, _, _, _, _, _, _, _, _]) rfl rfl rfl rfl ?_
 intro b1
 refine LJ_freeze ?_
 refine LJ_y rfl rfl (YJ_assign rfl) ?_
 refine LJ_nil ?_
 refine QJ_then ?_
 refine CJ_seq ?_
 refine CJ_reg ?_
 refine LJ_addF (r' := sliceR 1 (some ⟨b1, 0, none⟩) 3 (Iv [t.v0, t.v1, t.v2])) (.head _) (fun w S h => cellsR_head (n := 3) rfl (by decide) rfl w S h) ?_
 refine LJ_y rfl rfl (YJ_fieldOwn rfl fld_37_0 rfl) ?_
 refine LJ_y rfl rfl (YJ_sliceArr rfl arrt_34) ?_
 refine LJ_y rfl rfl (YJ_move rfl) ?_
 refine LJ_call0 rfl rfl rfl rfl rfl (index_c (xs := [t.v0, t.v1, t.v2]) rfl (by decide) (by decide)) (AllIn.sub (And.intro m0 trivial)) ?_
 refine LJ_y rfl rfl (YJ_assign rfl) ?_
 refine LJ_nil ?_
 refine QJ_then ?_
 refine CJ_ret ?_
 refine QJ_fin (.inl rfl) (μ' := []) (μr := _) (φ' := []) (res_tmp rfl rfl) (List.Perm.refl _) (fun _ h => nomatch h) ?_
 exact ⟨rfl, rfl, rfl⟩
set_option maxRecDepth 100000 in
set_option maxHeartbeats 4000000 in
theorem round_c {B : Nat} {h : Mh} {pts : List (Int × Int)} {tris : List Tr} {v fr : Int} {S : Int → Prop} (hS : ∀ x, S x → 0 ≤ x ∧ ∃ (t : Tr) (p : Nat), tris[x.toNat]? = some t ∧ plc t v = p ∧ p < 3 ∧ S (t.n ((p + 1) % 3))) (hf : S fr) (hlen : tris.length ≤ 1073741824) : Tri Try.prog 87 [.pointer (some ⟨B, 0, none⟩), .int .i64 v, .int .i64 fr] [] (meshFs B h pts tris) (RetX (fun n : Nat => RndOk tris v fr n) (fun n => .int .i64 (n : Nat)) (fun _ => []) (fun _ => [])) := by
 refine Tri_of (N := 47) Try.func87 rfl ent_87 rfl rfl ?_
 intro w0 S0 T0
 show CJ _ _ _ [(0, _), (1, _), (2, _)] _ _
 refine CJ_seq ?_
 refine CJ_reg ?_
 refine LJ_y rfl rfl (YJ_assign rfl) ?_
 refine LJ_nil ?_
 refine QJ_then ?_
 refine CJ_seq ?_
 refine CJ_reg ?_
 refine LJ_y rfl rfl (YJ_assign rfl) ?_
 refine LJ_nil ?_
 refine QJ_then ?_
 refine CJ_seq ?_
 refine CJ_reg ?_
 refine LJ_y rfl rfl (YJ_move rfl) ?_
 refine LJ_y rfl rfl (YJ_assign rfl) ?_
 refine LJ_nil ?_
 refine QJ_then ?_
 refine CJ_block ?_
 refine CJ_loopF (F := fun (i : Int × Nat) => ⟨[(0, .pointer (some ⟨B, 0, none⟩)), (1, .int .i64 v), (2, .int .i64 fr), (7, .int .i64 (i.2 : Nat)), (8, .int .i64 i.1)], [], []⟩) (I := fun (i : Int × Nat) => i.1 = itr tris v i.2 fr ∧ S i.1 ∧ i.2 ≤ tris.length ∧ ∀ j, 0 < j → j ≤ i.2 → itr tris v j fr ≠ fr) (m := fun (i : Int × Nat) => tris.length + 1 - i.2) (fr, 0) (μr := []) ⟨rfl, hf, Nat.zero_le _, fun j h0 h1 => absurd h1 (by dsimp only; omega)⟩ (And.intro rfl (And.intro rfl (And.intro rfl (And.intro rfl (And.intro rfl (trivial)))))) (permI [] rfl) (fun _ h => nomatch h) ?_
 rintro ⟨x, n⟩ ⟨hx, hSx, hn, hno⟩
 try dsimp only at hx
 try dsimp only at hSx
 try dsimp only at hn
 try dsimp only at hno
 show CJ _ _ _ [(0, .pointer (some ⟨B, 0, none⟩)), (1, .int .i64 v), (2, .int .i64 fr), (7, .int .i64 (n : Nat)), (8, .int .i64 x)] (_) _
 obtain ⟨hx0, t, p, ht, hpl, hp3, hSn⟩ := hS x hSx
 have hxl := (List.getElem?_eq_some_iff.1 ht).1
 have hit : itr tris v (n + 1) fr = t.n ((p + 1) % 3) := by
  show nxt tris v (itr tris v n fr) = _
  rw [← hx]
  unfold nxt
  rw [ht]
  dsimp only
  rw [hpl]
  rfl
 refine CJ_block ?_
 refine CJ_seq ?_
 refine CJ_reg ?_
 refine LJ_y rfl rfl (YJ_move rfl) ?_
 refine LJ_y rfl rfl (YJ_nilCheck rfl) ?_
 refine LJ_y rfl rfl (YJ_fieldOwn rfl fld_57_1 rfl) ?_
 refine LJ_y rfl rfl (YJ_loadFactP (A := some ⟨B, 0, none⟩) (j := 1) rfl rfl tyi_54 m0 rfl) ?_
 refine LJ_y rfl rfl (YJ_move rfl) ?_
 refine LJ_y rfl rfl (YJ_ixFact rfl rfl elt_54 m2 (by decide) (by omega) (by omega) (by omega)) ?_
 refine LJ_y rfl rfl (YJ_loadFactN (vs := [.int .i64 t.v0, .int .i64 t.v1, .int .i64 t.v2, .int .i64 t.n0, .int .i64 t.n1, .int .i64 t.n2, .bool t.f0, .bool t.f1, .bool t.f2]) (xs := trCells tris) rfl tyi_37 m2 (trCells_row ht) rfl) ?_
 refine LJ_y rfl rfl (YJ_move rfl) ?_
 refine LJ_call0 rfl rfl rfl rfl rfl (place_c (t := t) (v := v)) (fun _ h => nomatch h) ?_
 refine LJ_val (v := .int .i64 (p : Nat)) (congrArg (Value.int .i64) hpl) ?_
 refine LJ_y rfl rfl (YJ_assign rfl) ?_
 refine LJ_nil ?_
 refine QJ_then ?_
 refine CJ_seq ?_
 refine CJ_reg ?_
 refine LJ_y rfl rfl (YJ_move rfl) ?_
 refine LJ_y rfl rfl (YJ_bin rfl rfl (iop_add (by omega))) ?_
 refine LJ_y rfl rfl (YJ_assign rfl) ?_
 refine LJ_nil ?_
 refine QJ_then ?_
 refine CJ_seq ?_
 refine CJ_reg ?_
 refine LJ_y rfl rfl (YJ_move rfl) ?_
 refine LJ_y rfl rfl (YJ_nilCheck rfl) ?_
 refine LJ_y rfl rfl (YJ_fieldOwn rfl fld_57_1 rfl) ?_
 refine LJ_y rfl rfl (YJ_loadFactP (A := some ⟨B, 0, none⟩) (j := 1) rfl rfl tyi_54 m0 rfl) ?_
 refine LJ_y rfl rfl (YJ_move rfl) ?_
 refine LJ_y rfl rfl (YJ_move rfl) ?_
 refine LJ_y rfl rfl (YJ_bin rfl rfl (iop_add (by omega))) ?_
 refine LJ_y rfl rfl (YJ_rem rfl rfl (by first | decide | omega)) ?_
 refine LJ_val (v := .int .i64 (((p + 1) % 3 : Nat) : Int)) (congrArg (Value.int .i64) (tm3 (j := 1) hp3 (by decide))) ?_
 refine LJ_y rfl rfl (YJ_ixFact rfl rfl elt_54 m2 (by decide) (by omega) (by omega) (by omega)) ?_
 refine LJ_y rfl rfl (YJ_fieldAddr rfl fld_37_1) ?_
 refine LJ_y rfl rfl (YJ_ixArrP rfl rfl arrt_34 (by omega) (by omega)) ?_
 refine LJ_y rfl rfl (YJ_loadFactP (A := h.T) (j := x.toNat * 9 + (3 + (p + 1) % 3)) rfl (by rw [Addr.add_add, Addr.add_add]; congr 1; omega) tyi_3 m2 (trCells_n ht (Nat.mod_lt _ (by decide)))) ?_
 refine LJ_y rfl rfl (YJ_assign rfl) ?_
 refine LJ_nil ?_
 refine QJ_then ?_
 refine CJ_seq ?_
 refine CJ_reg ?_
 refine LJ_y rfl rfl (YJ_move rfl) ?_
 refine LJ_y rfl rfl (YJ_move rfl) ?_
 refine LJ_y rfl rfl (YJ_bin rfl rfl rfl) ?_
 refine LJ_y rfl rfl (YJ_move rfl) ?_
 refine LJ_boolC (fun h37 => ?_) (fun h37 => ?_)
 ·simp only [decide_eq_true_eq] at h37
  refine LJ_skip rfl rfl ?_
  refine LJ_skip rfl rfl ?_
  refine LJ_skip rfl rfl ?_
  refine LJ_skip rfl rfl ?_
  refine LJ_skip rfl rfl ?_
  refine LJ_skip rfl rfl ?_
  refine LJ_skip rfl rfl ?_
  refine LJ_y rfl rfl (YJ_pickT rfl rfl) ?_
  refine LJ_nil ?_
  refine QJ_then ?_
  refine CJ_condT rfl ?_
  refine CJ_seq ?_
  refine CJ_reg ?_
  refine LJ_y rfl rfl (YJ_move rfl) ?_
  refine LJ_y rfl rfl (YJ_assign rfl) ?_
  refine LJ_nil ?_
  refine QJ_then ?_
  refine CJ_ret ?_
  refine QJ_in_ret ?_
  refine QJ_then_ret ?_
  refine QJ_in_ret ?_
  refine QJ_fin (.inl rfl) (μ' := []) (μr := _) (φ' := []) (res_tmp rfl rfl) (List.Perm.refl _) (fun _ h => nomatch h) ?_
  exact ⟨n + 1, ⟨by omega, by omega, fun j h0 h1 => hno j h0 (by omega), .inl (hit.trans h37)⟩, rfl, rfl, rfl⟩
 ·simp only [decide_eq_false_iff_not] at h37
  refine LJ_y rfl rfl (YJ_move rfl) ?_
  refine LJ_y rfl rfl (YJ_move rfl) ?_
  refine LJ_y rfl rfl (YJ_nilCheck rfl) ?_
  refine LJ_y rfl rfl (YJ_fieldOwn rfl fld_57_1 rfl) ?_
  refine LJ_y rfl rfl (YJ_loadFactP (A := some ⟨B, 0, none⟩) (j := 1) rfl rfl tyi_54 m0 rfl) ?_
  refine LJ_y rfl rfl (YJ_len rfl ulen_54 rfl) ?_
  refine LJ_y rfl rfl (YJ_bin rfl rfl rfl) ?_
  refine LJ_y rfl rfl (YJ_pickF rfl rfl) ?_
  refine LJ_nil ?_
  refine QJ_then ?_
  refine CJ_cond rfl (fun h45 => ?_) (fun h45 => ?_)
  ·simp only [decide_eq_true_eq] at h45
   refine CJ_seq ?_
   refine CJ_reg ?_
   refine LJ_y rfl rfl (YJ_move rfl) ?_
   refine LJ_y rfl rfl (YJ_assign rfl) ?_
   refine LJ_nil ?_
   refine QJ_then ?_
   refine CJ_ret ?_
   refine QJ_in_ret ?_
   refine QJ_then_ret ?_
   refine QJ_in_ret ?_
   refine QJ_fin (.inl rfl) (μ' := []) (μr := _) (φ' := []) (res_tmp rfl rfl) (List.Perm.refl _) (fun _ h => nomatch h) ?_
   exact ⟨n + 1, ⟨by omega, by omega, fun j h0 h1 => hno j h0 (by omega), .inr (by omega)⟩, rfl, rfl, rfl⟩
  ·simp only [decide_eq_false_iff_not] at h45
   refine CJ_skip ?_
   refine QJ_in_normal ?_
   refine QJ_roundF (F := fun (i : Int × Nat) => ⟨[(0, .pointer (some ⟨B, 0, none⟩)), (1, .int .i64 v), (2, .int .i64 fr), (7, .int .i64 (i.2 : Nat)), (8, .int .i64 i.1)], [], []⟩) (I := fun (i : Int × Nat) => i.1 = itr tris v i.2 fr ∧ S i.1 ∧ i.2 ≤ tris.length ∧ ∀ j, 0 < j → j ≤ i.2 → itr tris v j fr ≠ fr) (m := fun (i : Int × Nat) => tris.length + 1 - i.2) (i := (x, n)) ((t.n ((p + 1) % 3), n + 1)) (μd := []) ⟨hit.symm, hSn, by dsimp only; omega, fun j h0 h1 => (Nat.lt_or_ge j (n + 1)).elim (fun q => hno j h0 (by omega)) (fun q => by rw [show j = n + 1 from Nat.le_antisymm h1 q, hit]; exact h37)⟩ (by dsimp only; omega) (And.intro rfl (And.intro rfl (And.intro rfl (And.intro rfl (And.intro rfl (trivial)))))) (permI [] rfl) (fun _ h => nomatch h) (fun _ h => h)
end Go.Proofs.Ytbanlhlggkdanaa
namespace Go.Proofs.Ytbanlhlggkdanaa
open Go.RowKit
theorem ent_62 : Enter Try.prog 62 = true := by kernel_rfl
theorem umap_70 : Try.prog.underlying 70 = some (.map 3 3) := by kernel_rfl
theorem keyI : KeyT Try.prog 3 gI := keyInt (q := .i64) (by kernel_rfl)
abbrev MI := List (Int × Int × Nat)
def cntA (x : Int) : List Tr → Int
 | [] => 0
 | t :: l => cntv t x 3 + cntA x l
theorem cntA_b (x : Int) : ∀ l : List Tr, 0 ≤ cntA x l ∧ cntA x l ≤ 3 * l.length
 | [] => ⟨Int.le_refl _, Int.le_refl _⟩
 | t :: l => by
  have h1 := cntA_b x l
  have h2 := cntv_b t x 3
  unfold cntA
  rw [List.length_cons]
  omega
theorem cntA_app (x : Int) (t : Tr) : ∀ l : List Tr, cntA x (l ++ [t]) = cntA x l + cntv t x 3
 | [] => by show cntv t x 3 + 0 = 0 + cntv t x 3; omega
 | u :: l => by
  have := cntA_app x t l
  show cntv u x 3 + cntA x (l ++ [t]) = cntv u x 3 + cntA x l + cntv t x 3
  omega
theorem cntA_take {x : Int} {l : List Tr} {n : Nat} {t : Tr} (h : l[n]? = some t) : cntA x (l.take (n + 1)) = cntA x (l.take n) + cntv t x 3 := by
 rw [List.take_add_one, h]
 exact cntA_app x t _
structure CI (tris : List Tr) (c : Int → Int) (Lc : MI) (cc : Nat) (Lo : MI) : Prop where
 c0 : ∀ v, v ≠ -2 → (mget v Lc).getD 0 = c v
 kc : ∀ e, e ∈ Lc → e.1 ≠ -2 ∧ 0 < e.2.1
 bn : (Lc.map (·.2.2)).Nodup
 bc : ∀ e, e ∈ Lc → e.2.2 < cc
 kn : (Lc.map (·.1)).Nodup
 o : ∀ v n, mget v Lo = some n → 0 ≤ n ∧ ∃ (t : Tr) (k : Nat), tris[n.toNat]? = some t ∧ k < 3 ∧ t.v k = v
 oc : ∀ e, e ∈ Lc → ∃ n, mget e.1 Lo = some n
theorem CI.nil (tris : List Tr) {c : Int → Int} (h : ∀ v, c v = 0) : CI tris c [] 0 [] :=
 ⟨fun v _ => (h v).symm, fun _ h => (nomatch h), List.nodup_nil, fun _ h => (nomatch h), List.nodup_nil, (fun v n h => by rw [mget_nil] at h; cases h), fun _ h => (nomatch h)⟩
theorem CI.congr {tris : List Tr} {c c' : Int → Int} {Lc Lo : MI} {cc : Nat} (h : CI tris c Lc cc Lo) (he : ∀ v, v ≠ -2 → c v = c' v) : CI tris c' Lc cc Lo := ⟨fun v hv => (h.c0 v hv).trans (he v hv), h.2, h.3, h.4, h.5, h.6, h.7⟩
theorem CI.step {tris : List Tr} {c : Int → Int} {Lc Lo : MI} {cc co n k : Nat} {t : Tr} (h : CI tris c Lc cc Lo) (ht : tris[n]? = some t) (hk : k < 3) (hv : t.v k ≠ -2) (hc : ∀ v, 0 ≤ c v) :
  CI tris (fun x => c x + if t.v k = x then 1 else 0) (mput (t.v k) ((mget (t.v k) Lc).getD 0 + 1) Lc cc) (mclk (t.v k) Lc cc) (mput (t.v k) (n : Int) Lo co) := by
 have hb := mput_born (k := t.v k) (v := (mget (t.v k) Lc).getD 0 + 1) h.bc h.bn
 have hn := mput_keys (k := t.v k) (v := (mget (t.v k) Lc).getD 0 + 1) (c := cc) h.kn
 have hmem : ∀ e, e ∈ mput (t.v k) ((mget (t.v k) Lc).getD 0 + 1) Lc cc → (e.1 = t.v k ∧ e.2.1 = (mget (t.v k) Lc).getD 0 + 1) ∨ ∃ e', e' ∈ Lc ∧ e'.1 = e.1 ∧ e'.2.1 = e.2.1 := by
  intro e he
  have := mget_of_mem hn he
  rw [mget_mput] at this
  split at this
  ·rename_i q
   exact .inl ⟨q, (Option.some.inj this).symm⟩
  ·exact .inr (mget_mem this)
 refine ⟨fun v hv2 => ?_, fun e he => ?_, hb.1, hb.2, hn, fun v m hm => ?_, fun e he => ?_⟩
 ·rw [mget_mput]
  by_cases q : v = t.v k
  ·subst q
   rw [if_pos rfl, if_pos rfl, ← h.c0 _ hv]
   rfl
  ·rw [if_neg q, if_neg (fun e => q e.symm), h.c0 v hv2]
   omega
 ·rcases hmem e he with ⟨q1, q2⟩ | ⟨e', he', q1, q2⟩
  ·have := hc (t.v k)
   rw [← h.c0 _ hv] at this
   exact ⟨q1 ▸ hv, by rw [q2]; omega⟩
  ·rw [← q1, ← q2]; exact h.kc e' he'
 ·rw [mget_mput] at hm
  split at hm
  ·rename_i q
   cases hm
   exact ⟨Int.natCast_nonneg n, t, k, by simpa using ht, hk, q.symm⟩
  ·exact h.o v m hm
 ·rw [mget_mput]
  split
  ·exact ⟨_, rfl⟩
  ·rename_i q
   rcases hmem e he with ⟨q1, _⟩ | ⟨e', he', q1, _⟩
   ·exact absurd q1 q
   ·rw [← q1]; exact h.oc e' he'
structure StOk (tris : List Tr) (ats : List Int) : Prop where
 cl : ∀ (v : Int) (n k : Nat) (t : Tr), v ≠ -2 → tris[n]? = some t → k < 3 → t.v k = v → ∃ S : Int → Prop, S (n : Int) ∧ ∀ x, S x → 0 ≤ x ∧ ∃ (t : Tr) (p : Nat), tris[x.toNat]? = some t ∧ plc t v = p ∧ p < 3 ∧ S (t.n ((p + 1) % 3))
 rd : ∀ (v : Int) (n k : Nat) (t : Tr) (m : Nat), v ≠ -2 → tris[n]? = some t → k < 3 → t.v k = v → RndOk tris v n m → (m : Int) = cntA v tris
 at_ : ∀ (v : Nat) (a : Int), ats[v]? = some a → (a < 0 ↔ cntA v tris = 0) ∧ a < tris.length ∧ (0 ≤ a → ∃ t, tris[a.toNat]? = some t ∧ 0 ≤ plc t v)
 gh : 0 < cntA (-1) tris
def atFs (B : Nat) (h : Mh) (pts : List (Int × Int)) (tris : List Tr) (ats : List Int) : List Res :=
 [sliceR 4 (some ⟨B, 0, none⟩) 1 [.slice h.P pts.length h.cp, .slice h.T tris.length h.ct, .slice h.F h.nf h.cf, .slice h.A h.na h.ca], sliceR 2 h.P pts.length (ptCells pts), sliceR 9 h.T tris.length (trCells tris), sliceR 1 h.A ats.length (Iv ats)]
theorem at_mesh {B : Nat} {h : Mh} {pts : List (Int × Int)} {tris : List Tr} {ats : List Int} {φ : List Res} (hs : ∀ r, r ∈ atFs B h pts tris ats → r ∈ φ) : ∀ r, r ∈ meshFs B h pts tris → r ∈ φ := fun r hr => hs r (by
 simp only [meshFs, atFs, List.mem_cons, List.not_mem_nil, or_false] at *
 rcases hr with h | h | h
 ·exact .inl h
 ·exact .inr (.inl h)
 ·exact .inr (.inr (.inl h)))
theorem left_ltG {κ ν : Type} {L : List (κ × ν × Nat)} {seen : List Nat} {e : κ × ν × Nat} (h : e ∈ leftL L seen) : (leftL L (seen ++ [e.2.2])).length < (leftL L seen).length := by
 have e1 : leftL L (seen ++ [e.2.2]) = (leftL L seen).filter (fun x => !(x.2.2 == e.2.2)) := by
  unfold leftL
  rw [List.filter_filter]
  congr 1
  funext x
  simp only [List.contains_append, List.contains_cons, List.contains_nil, Bool.or_false, Bool.not_or]
  exact Bool.and_comm _ _
 rw [e1]
 exact List.length_filter_lt_length_iff_exists.2 ⟨e, h, by simp⟩
theorem left_memG {κ ν : Type} {L : List (κ × ν × Nat)} {seen : List Nat} {e : κ × ν × Nat} (h : e ∈ leftL L seen) : e ∈ L ∧ ¬ e.2.2 ∈ seen := by
 unfold leftL at h
 rw [List.mem_filter] at h
 exact ⟨h.1, by simpa using h.2⟩
theorem getD_map {o : Option Int} : (o.map gI).getD (.int .i64 0) = .int .i64 (o.getD 0) := by cases o <;> rfl
set_option maxRecDepth 100000 in
set_option maxHeartbeats 16000000 in
theorem stars_c {B : Nat} {h : Mh} {pts : List (Int × Int)} {tris : List Tr} {ats : List Int} (hna : h.na = ats.length) (hlen : tris.length ≤ 1000000) (hal : ats.length ≤ 1000000) (hSt : StOk tris ats) : Tri Try.prog 62 [.pointer (some ⟨B, 0, none⟩)] [] (atFs B h pts tris ats) (Ret0 (.bool true)) := by
 refine Tri_of (N := 102) Try.func62 rfl ent_62 rfl rfl ?_
 intro w0 S0 T0
 show CJ _ _ _ [(0, _)] _ _
 refine CJ_seq ?_
 refine CJ_reg ?_
 refine LJ_y rfl rfl (YJ_assign rfl) ?_
 refine LJ_nil ?_
 refine QJ_then ?_
 refine CJ_seq ?_
 refine CJ_reg ?_
 refine LJ_makeMap rfl rfl ?_
 intro cm
 refine LJ_makeMap rfl rfl ?_
 intro om
 refine LJ_y rfl rfl (YJ_assign rfl) ?_
 refine LJ_y rfl rfl (YJ_assign rfl) ?_
 refine LJ_nil ?_
 refine QJ_then ?_
 refine CJ_seq ?_
 refine CJ_seq ?_
 refine CJ_reg ?_
 refine LJ_y rfl rfl (YJ_move rfl) ?_
 refine LJ_y rfl rfl (YJ_nilCheck rfl) ?_
 refine LJ_y rfl rfl (YJ_fieldOwn rfl fld_57_1 rfl) ?_
 refine LJ_y rfl rfl (YJ_loadFactP (A := some ⟨B, 0, none⟩) (j := 1) rfl rfl tyi_54 m0 rfl) ?_
 refine LJ_y rfl rfl (YJ_len rfl ulen_54 rfl) ?_
 refine LJ_y rfl rfl (YJ_move rfl) ?_
 refine LJ_nil ?_
 refine QJ_then ?_
 refine CJ_block ?_
 refine CJ_loopF (F := fun (i : Nat × MI × Nat × MI × Nat) => ⟨[(0, .pointer (some ⟨B, 0, none⟩)), (3, .map (some cm)), (4, .map (some om)), (18, .slice h.T tris.length h.ct), (19, .int .i64 tris.length), (20, .int .i64 (i.1 : Nat))], [mapR cm gI gI i.2.1 i.2.2.1, mapR om gI gI i.2.2.2.1 i.2.2.2.2], []⟩) (I := fun (i : Nat × MI × Nat × MI × Nat) => i.1 ≤ tris.length ∧ CI tris (fun x => cntA x (tris.take i.1)) i.2.1 i.2.2.1 i.2.2.2.1) (m := fun (i : Nat × MI × Nat × MI × Nat) => tris.length - i.1) (0, [], 0, [], 0) (μr := []) ⟨Nat.zero_le _, CI.nil _ (fun _ => rfl)⟩ (And.intro rfl (And.intro rfl (And.intro rfl (And.intro rfl (And.intro rfl (And.intro rfl (trivial))))))) (permI [1] rfl) (fun _ h => nomatch h) ?_
 rintro ⟨n, Lc, cc, Lo, co⟩ ⟨hn, hCI⟩
 try dsimp only at hn
 try dsimp only at hCI
 show CJ _ _ _ [(0, .pointer (some ⟨B, 0, none⟩)), (3, .map (some cm)), (4, .map (some om)), (18, .slice h.T tris.length h.ct), (19, .int .i64 tris.length), (20, .int .i64 (n : Nat))] (mapR cm gI gI Lc cc :: mapR om gI gI Lo co :: _) _
 refine CJ_seq ?_
 refine CJ_reg ?_
 refine LJ_y rfl rfl (YJ_bin rfl rfl rfl) ?_
 refine LJ_nil ?_
 refine QJ_then ?_
 refine CJ_seq ?_
 refine CJ_cond rfl (fun h21 => ?_) (fun h21 => ?_)
 ·simp only [decide_eq_true_eq] at h21
  obtain ⟨t, ht⟩ := get_at h21
  refine CJ_skip ?_
  refine QJ_then ?_
  refine CJ_seq ?_
  refine CJ_block ?_
  refine CJ_seq ?_
  refine CJ_reg ?_
  refine LJ_y rfl rfl (YJ_move rfl) ?_
  refine LJ_y rfl rfl (YJ_ixFact rfl rfl elt_54 m2 (by decide) (by omega) (by omega) (by omega)) ?_
  refine LJ_y rfl rfl (YJ_loadFactN (vs := [.int .i64 t.v0, .int .i64 t.v1, .int .i64 t.v2, .int .i64 t.n0, .int .i64 t.n1, .int .i64 t.n2, .bool t.f0, .bool t.f1, .bool t.f2]) (xs := trCells tris) rfl tyi_37 m2 (trCells_row ht) rfl) ?_
  refine LJ_alloc (cs := #[_, _, _, _, _, _, _, _, _]) rfl rfl zer_37 rfl ?_
  intro b3
  refine LJ_y rfl rfl (YJ_assign rfl) ?_
  refine LJ_store (cs' := #[_, _, _, _, _, _, _, _, _]) (μ' := [_, _, _]) 0 rfl rfl rfl rfl tyi_37 rfl (Nat.le_of_ble_eq_true rfl) rfl (wr_all rfl) rfl ?_
  refine LJ_nil ?_
  refine QJ_then ?_
  refine CJ_seq ?_
  refine CJ_reg ?_
  refine LJ_y rfl rfl (YJ_fieldOwn rfl fld_37_0 rfl) ?_
  refine LJ_y rfl rfl (YJ_loadN (vs := [_, _, _]) rfl tyi_34 m0 rfl rfl) ?_
  refine LJ_y rfl rfl (YJ_move rfl) ?_
  refine LJ_nil ?_
  refine QJ_then ?_
  refine CJ_block ?_
  refine CJ_loopF (F := fun (i : Nat × MI × Nat × MI × Nat) => ⟨[(0, .pointer (some ⟨B, 0, none⟩)), (3, .map (some cm)), (4, .map (some om)), (18, .slice h.T tris.length h.ct), (19, .int .i64 tris.length), (20, .int .i64 (n : Nat)), (5, .int .i64 (n : Nat)), (26, .agg #[.int .i64 t.v0, .int .i64 t.v1, .int .i64 t.v2]), (27, .int .i64 (i.1 : Nat))], [mapR cm gI gI i.2.1 i.2.2.1, mapR om gI gI i.2.2.2.1 i.2.2.2.2], []⟩) (I := fun (i : Nat × MI × Nat × MI × Nat) => i.1 ≤ 3 ∧ CI tris (fun x => cntA x (tris.take n) + cntv t x i.1) i.2.1 i.2.2.1 i.2.2.2.1) (m := fun (i : Nat × MI × Nat × MI × Nat) => 3 - i.1) (0, Lc, cc, Lo, co) (μr := [_]) ⟨Nat.zero_le _, hCI.congr (fun v _ => (Int.add_zero _).symm)⟩ (And.intro rfl (And.intro rfl (And.intro rfl (And.intro rfl (And.intro rfl (And.intro rfl (And.intro rfl (And.intro rfl (And.intro rfl (trivial)))))))))) (permI [1, 1] rfl) (fun _ h => nomatch h) ?_
  rintro ⟨k, Lc, cc, Lo, co⟩ ⟨hk, hCI⟩
  try dsimp only at hk
  try dsimp only at hCI
  show CJ _ _ _ [(0, .pointer (some ⟨B, 0, none⟩)), (3, .map (some cm)), (4, .map (some om)), (18, .slice h.T tris.length h.ct), (19, .int .i64 tris.length), (20, .int .i64 (n : Nat)), (5, .int .i64 (n : Nat)), (26, .agg #[.int .i64 t.v0, .int .i64 t.v1, .int .i64 t.v2]), (27, .int .i64 (k : Nat))] (mapR cm gI gI Lc cc :: mapR om gI gI Lo co :: _ :: _) _
  refine CJ_seq ?_
  refine CJ_reg ?_
  refine LJ_y rfl rfl (YJ_bin rfl rfl rfl) ?_
  refine LJ_nil ?_
  refine QJ_then ?_
  refine CJ_seq ?_
  refine CJ_cond rfl (fun h28 => ?_) (fun h28 => ?_)
  ·simp only [decide_eq_true_eq] at h28
   have hk3 : k < 3 := by omega
   refine CJ_skip ?_
   refine QJ_then ?_
   refine CJ_seq ?_
   refine CJ_block ?_
   refine CJ_seq ?_
   refine CJ_reg ?_
   refine LJ_y rfl rfl (YJ_index1 rfl rfl arrt_34 tyi_3 (by omega) (by omega) (vl_get hk3)) ?_
   refine LJ_y rfl rfl (YJ_assign rfl) ?_
   refine LJ_nil ?_
   refine QJ_then ?_
   refine CJ_seq ?_
   refine CJ_reg ?_
   refine LJ_y rfl rfl (YJ_move rfl) ?_
   refine LJ_y rfl rfl (YJ_bin rfl rfl rfl) ?_
   refine LJ_nil ?_
   refine QJ_then ?_
   refine CJ_cond rfl (fun h31 => ?_) (fun h31 => ?_)
   ·simp only [decide_eq_false_iff_not, Bool.not_eq_true'] at h31
    refine CJ_seq ?_
    refine CJ_reg ?_
    refine LJ_y rfl rfl (YJ_move rfl) ?_
    refine LJ_y rfl rfl (YJ_move rfl) ?_
    have hcb : 0 ≤ (mget (t.v k) Lc).getD 0 ∧ (mget (t.v k) Lc).getD 0 ≤ 3000009 := by
     rw [hCI.c0 _ h31]
     have q1 := cntA_b (t.v k) (tris.take n)
     have q2 := cntv_b t (t.v k) k
     have q3 : (tris.take n).length ≤ tris.length := by rw [List.length_take]; omega
     omega
    refine LJ_y rfl rfl (YJ_lookup (f := gI) (g := gI) (k := (t.v k)) rfl rfl umap_70 keyI zer_3 (MapAt_own (l := Lc) (c := cc) m0) rfl) ?_
    refine LJ_val (v := .int .i64 ((mget (t.v k) Lc).getD 0)) (getD_map) ?_
    refine LJ_y rfl rfl (YJ_bin rfl rfl (iop_add (by omega))) ?_
    refine LJ_mapUpdate (f := gI) (g := gI) (k := (t.v k)) (v := ((mget (t.v k) Lc).getD 0 + 1)) 0 rfl rfl rfl rfl rfl umap_70 keyI rfl rfl ?_
    show LJ _ _ _ _ _ (_ :: _ :: _ :: _) _
    refine LJ_nil ?_
    refine QJ_then ?_
    refine CJ_reg ?_
    refine LJ_y rfl rfl (YJ_move rfl) ?_
    refine LJ_y rfl rfl (YJ_move rfl) ?_
    refine LJ_y rfl rfl (YJ_move rfl) ?_
    refine LJ_mapUpdate (f := gI) (g := gI) (k := (t.v k)) (v := (n : Int)) 1 rfl rfl rfl rfl rfl umap_70 keyI rfl rfl ?_
    show LJ _ _ _ _ _ (_ :: _ :: _ :: _) _
    refine LJ_nil ?_
    refine QJ_in_normal ?_
    refine QJ_then ?_
    refine CJ_reg ?_
    refine LJ_y rfl rfl (YJ_bin rfl rfl (iop_add (by omega))) ?_
    refine LJ_y rfl rfl (YJ_move rfl) ?_
    refine LJ_nil ?_
    refine QJ_roundF (F := fun (i : Nat × MI × Nat × MI × Nat) => ⟨[(0, .pointer (some ⟨B, 0, none⟩)), (3, .map (some cm)), (4, .map (some om)), (18, .slice h.T tris.length h.ct), (19, .int .i64 tris.length), (20, .int .i64 (n : Nat)), (5, .int .i64 (n : Nat)), (26, .agg #[.int .i64 t.v0, .int .i64 t.v1, .int .i64 t.v2]), (27, .int .i64 (i.1 : Nat))], [mapR cm gI gI i.2.1 i.2.2.1, mapR om gI gI i.2.2.2.1 i.2.2.2.2], []⟩) (I := fun (i : Nat × MI × Nat × MI × Nat) => i.1 ≤ 3 ∧ CI tris (fun x => cntA x (tris.take n) + cntv t x i.1) i.2.1 i.2.2.1 i.2.2.2.1) (m := fun (i : Nat × MI × Nat × MI × Nat) => 3 - i.1) (i := _) ((k + 1, mput (t.v k) ((mget (t.v k) Lc).getD 0 + 1) Lc cc, mclk (t.v k) Lc cc, mput (t.v k) (n : Int) Lo co, mclk (t.v k) Lo co)) (μd := []) ⟨by omega, (hCI.step ht hk3 h31 (fun v => by have q1 := cntA_b v (tris.take n); have q2 := cntv_b t v k; omega)).congr (fun v _ => by dsimp only; rw [Int.add_assoc]; rfl)⟩ (by dsimp only; omega) (And.intro rfl (And.intro rfl (And.intro rfl (And.intro rfl (And.intro rfl (And.intro rfl (And.intro rfl (And.intro rfl (And.intro rfl (trivial)))))))))) (permI [] rfl) (fun _ h => nomatch h) (fun _ h => h)
   ·simp only [decide_eq_true_eq, Bool.not_eq_false'] at h31
    refine CJ_skip ?_
    refine QJ_in_normal ?_
    refine QJ_then ?_
    refine CJ_reg ?_
    refine LJ_y rfl rfl (YJ_bin rfl rfl (iop_add (by omega))) ?_
    refine LJ_y rfl rfl (YJ_move rfl) ?_
    refine LJ_nil ?_
    refine QJ_roundF (F := fun (i : Nat × MI × Nat × MI × Nat) => ⟨[(0, .pointer (some ⟨B, 0, none⟩)), (3, .map (some cm)), (4, .map (some om)), (18, .slice h.T tris.length h.ct), (19, .int .i64 tris.length), (20, .int .i64 (n : Nat)), (5, .int .i64 (n : Nat)), (26, .agg #[.int .i64 t.v0, .int .i64 t.v1, .int .i64 t.v2]), (27, .int .i64 (i.1 : Nat))], [mapR cm gI gI i.2.1 i.2.2.1, mapR om gI gI i.2.2.2.1 i.2.2.2.2], []⟩) (I := fun (i : Nat × MI × Nat × MI × Nat) => i.1 ≤ 3 ∧ CI tris (fun x => cntA x (tris.take n) + cntv t x i.1) i.2.1 i.2.2.1 i.2.2.2.1) (m := fun (i : Nat × MI × Nat × MI × Nat) => 3 - i.1) (i := _) ((k + 1, Lc, cc, Lo, co)) (μd := []) ⟨by omega, hCI.congr (fun v hv => by dsimp only; rw [show cntv t v (k + 1) = cntv t v k + (if t.v k = v then 1 else 0) from rfl, if_neg (by rw [h31]; exact fun q => hv q.symm), Int.add_zero])⟩ (by dsimp only; omega) (And.intro rfl (And.intro rfl (And.intro rfl (And.intro rfl (And.intro rfl (And.intro rfl (And.intro rfl (And.intro rfl (And.intro rfl (trivial)))))))))) (permI [] rfl) (fun _ h => nomatch h) (fun _ h => h)
  ·simp only [decide_eq_false_iff_not] at h28
   have hk3 : 3 = k := by omega
   subst hk3
   refine CJ_exit ?_
   refine QJ_then_exit ?_
   refine QJ_then_exit ?_
   refine QJ_in_exit ?_
   refine QJ_in_normal ?_
   refine QJ_then ?_
   refine CJ_reg ?_
   refine LJ_y rfl rfl (YJ_bin rfl rfl (iop_add (by omega))) ?_
   refine LJ_y rfl rfl (YJ_move rfl) ?_
   refine LJ_nil ?_
   refine QJ_roundF (F := fun (i : Nat × MI × Nat × MI × Nat) => ⟨[(0, .pointer (some ⟨B, 0, none⟩)), (3, .map (some cm)), (4, .map (some om)), (18, .slice h.T tris.length h.ct), (19, .int .i64 tris.length), (20, .int .i64 (i.1 : Nat))], [mapR cm gI gI i.2.1 i.2.2.1, mapR om gI gI i.2.2.2.1 i.2.2.2.2], []⟩) (I := fun (i : Nat × MI × Nat × MI × Nat) => i.1 ≤ tris.length ∧ CI tris (fun x => cntA x (tris.take i.1)) i.2.1 i.2.2.1 i.2.2.2.1) (m := fun (i : Nat × MI × Nat × MI × Nat) => tris.length - i.1) (i := (n, Lc, cc, Lo, co)) ((n + 1, Lc, cc, Lo, co)) (μd := [_]) ⟨by omega, hCI.congr (fun v _ => (cntA_take ht).symm)⟩ (by dsimp only; omega) (And.intro rfl (And.intro rfl (And.intro rfl (And.intro rfl (And.intro rfl (And.intro rfl (trivial))))))) (permI [] rfl) (fun _ h => nomatch h) (fun _ h => h)
 ·simp only [decide_eq_false_iff_not] at h21
  have hn9 : n = tris.length := by omega
  subst hn9
  rw [List.take_length] at hCI
  refine CJ_exit ?_
  refine QJ_then_exit ?_
  refine QJ_then_exit ?_
  refine QJ_in_exit ?_
  refine QJ_then ?_
  refine CJ_seq ?_
  refine CJ_seq ?_
  refine CJ_reg ?_
  refine LJ_y rfl rfl (YJ_move rfl) ?_
  refine LJ_range (f := gI) (g := gI) rfl rfl rfl umap_70 (MapAt_own (l := Lc) (c := cc) m0) ?_
  intro it
  refine LJ_nil ?_
  refine QJ_then ?_
  refine CJ_block ?_
  refine CJ_loopF (F := fun (i : List Nat) => ⟨[(0, .pointer (some ⟨B, 0, none⟩)), (3, .map (some cm)), (4, .map (some om)), (42, .pointer (some ⟨it, 0, none⟩))], [itR it cm cc i cc], []⟩) (I := fun (i : List Nat) => True) (m := fun (i : List Nat) => (leftL Lc i).length) [] (μr := [_, _]) trivial (And.intro rfl (And.intro rfl (And.intro rfl (And.intro rfl (trivial))))) (permI [] rfl) (fun _ h => nomatch h) ?_
  rintro seen -
  show CJ _ _ _ [(0, .pointer (some ⟨B, 0, none⟩)), (3, .map (some cm)), (4, .map (some om)), (42, .pointer (some ⟨it, 0, none⟩))] (itR it cm cc seen cc :: _ :: _ :: _) _
  refine CJ_seq ?_
  refine CJ_reg ?_
  refine LJ_next (f := gI) (g := gI) 0 rfl rfl rfl rfl (MapAt_own (l := Lc) (c := cc) m1) hCI.bc (Nat.le_refl _) (fun h43 => ?_) (fun e43 he43 => ?_)
  ·show LJ _ _ _ _ _ (_ :: _ :: _ :: _) _
   refine LJ_y rfl rfl (YJ_extract rfl rfl) ?_
   refine LJ_nil ?_
   refine QJ_then ?_
   refine CJ_seq ?_
   refine CJ_condF rfl ?_
   refine CJ_exit ?_
   refine QJ_then_exit ?_
   refine QJ_then_exit ?_
   refine QJ_in_exit ?_
   refine QJ_then ?_
   refine CJ_seq ?_
   refine CJ_seq ?_
   refine CJ_reg ?_
   refine LJ_y rfl rfl (YJ_move rfl) ?_
   refine LJ_y rfl rfl (YJ_nilCheck rfl) ?_
   refine LJ_y rfl rfl (YJ_fieldOwn rfl fld_57_3 rfl) ?_
   refine LJ_y rfl rfl (YJ_loadFactP (A := some ⟨B, 0, none⟩) (j := 3) rfl rfl tyi_55 m0 rfl) ?_
   refine LJ_val (v := .slice h.A ats.length h.ca) (by rw [hna]) ?_
   refine LJ_y rfl rfl (YJ_len rfl ulen_55 rfl) ?_
   refine LJ_y rfl rfl (YJ_move rfl) ?_
   refine LJ_nil ?_
   refine QJ_then ?_
   refine CJ_block ?_
   refine CJ_loopF (F := fun (i : Nat) => ⟨[(0, .pointer (some ⟨B, 0, none⟩)), (3, .map (some cm)), (4, .map (some om)), (59, .slice h.A ats.length h.ca), (60, .int .i64 ats.length), (61, .int .i64 (i : Nat))], [], []⟩) (I := fun (i : Nat) => i ≤ ats.length) (m := fun (i : Nat) => ats.length - i) 0 (μr := [_, _, _]) (Nat.zero_le _) (And.intro rfl (And.intro rfl (And.intro rfl (And.intro rfl (And.intro rfl (And.intro rfl (trivial))))))) (permI [] rfl) (fun _ h => nomatch h) ?_
   rintro j hj
   try dsimp only at hj
   show CJ _ _ _ [(0, .pointer (some ⟨B, 0, none⟩)), (3, .map (some cm)), (4, .map (some om)), (59, .slice h.A ats.length h.ca), (60, .int .i64 ats.length), (61, .int .i64 (j : Nat))] (_ :: _ :: _ :: _) _
   refine CJ_seq ?_
   refine CJ_reg ?_
   refine LJ_y rfl rfl (YJ_bin rfl rfl rfl) ?_
   refine LJ_nil ?_
   refine QJ_then ?_
   refine CJ_seq ?_
   refine CJ_cond rfl (fun h62 => ?_) (fun h62 => ?_)
   ·simp only [decide_eq_true_eq] at h62
    obtain ⟨a, ha⟩ := get_at h62
    obtain ⟨ha1, ha2, ha3⟩ := hSt.at_ j a ha
    refine CJ_skip ?_
    refine QJ_then ?_
    refine CJ_seq ?_
    refine CJ_block ?_
    refine CJ_seq ?_
    refine CJ_reg ?_
    refine LJ_y rfl rfl (YJ_move rfl) ?_
    refine LJ_y rfl rfl (YJ_ixFact (n' := ats.length) rfl rfl elt_55 m3 (by decide) (by omega) (by omega) (by omega)) ?_
    refine LJ_y rfl rfl (YJ_loadFactP (A := h.A) (j := j) (v := .int .i64 a) rfl (congrArg _ (by omega)) tyi_3 m3 (by rw [Iv, List.getElem?_map, ha]; rfl)) ?_
    refine LJ_y rfl rfl (YJ_assign rfl) ?_
    refine LJ_y rfl rfl (YJ_assign rfl) ?_
    refine LJ_nil ?_
    refine QJ_then ?_
    refine CJ_seq ?_
    refine CJ_reg ?_
    refine LJ_y rfl rfl (YJ_move rfl) ?_
    refine LJ_y rfl rfl (YJ_bin rfl rfl rfl) ?_
    refine LJ_y rfl rfl (YJ_move rfl) ?_
    refine LJ_y rfl rfl (YJ_move rfl) ?_
    refine LJ_y rfl rfl (YJ_lookup (f := gI) (g := gI) (k := (j : Int)) rfl rfl umap_70 keyI zer_3 (MapAt_own (l := Lc) (c := cc) m1) rfl) ?_
    refine LJ_val (v := .int .i64 ((mget (j : Int) Lc).getD 0)) (getD_map) ?_
    refine LJ_y rfl rfl (YJ_bin rfl rfl rfl) ?_
    refine LJ_y rfl rfl (YJ_neb rfl rfl ubool_4) ?_
    refine LJ_val (v := .bool false) (by rw [hCI.c0 _ (by omega)]; exact congrArg Value.bool (by simp [ha1])) ?_
    refine LJ_y rfl rfl (YJ_move rfl) ?_
    refine LJ_bool (c := false) rfl ?_
    refine LJ_y rfl rfl (YJ_move rfl) ?_
    refine LJ_y rfl rfl (YJ_move rfl) ?_
    refine LJ_y rfl rfl (YJ_nilCheck rfl) ?_
    refine LJ_y rfl rfl (YJ_fieldOwn rfl fld_57_1 rfl) ?_
    refine LJ_y rfl rfl (YJ_loadFactP (A := some ⟨B, 0, none⟩) (j := 1) rfl rfl tyi_54 m0 rfl) ?_
    refine LJ_y rfl rfl (YJ_len rfl ulen_54 rfl) ?_
    refine LJ_y rfl rfl (YJ_bin rfl rfl rfl) ?_
    refine LJ_val (v := .bool false) (congrArg Value.bool (decide_eq_false (by omega))) ?_
    refine LJ_y rfl rfl (YJ_pickF rfl rfl) ?_
    refine LJ_y rfl rfl (YJ_move rfl) ?_
    refine LJ_bool (c := false) rfl ?_
    refine LJ_y rfl rfl (YJ_move rfl) ?_
    refine LJ_y rfl rfl (YJ_bin rfl rfl rfl) ?_
    refine LJ_y rfl rfl (YJ_move rfl) ?_
    refine LJ_boolC (fun h85 => ?_) (fun h85 => ?_)
    ·simp only [decide_eq_true_eq] at h85
     obtain ⟨ta, hta, hpl⟩ := ha3 h85
     have hal9 := (List.getElem?_eq_some_iff.1 hta).1
     refine LJ_y rfl rfl (YJ_move rfl) ?_
     refine LJ_y rfl rfl (YJ_nilCheck rfl) ?_
     refine LJ_y rfl rfl (YJ_fieldOwn rfl fld_57_1 rfl) ?_
     refine LJ_y rfl rfl (YJ_loadFactP (A := some ⟨B, 0, none⟩) (j := 1) rfl rfl tyi_54 m0 rfl) ?_
     refine LJ_y rfl rfl (YJ_move rfl) ?_
     refine LJ_y rfl rfl (YJ_ixFact rfl rfl elt_54 m2 (by decide) (by omega) (by omega) (by omega)) ?_
     refine LJ_y rfl rfl (YJ_loadFactN (vs := [.int .i64 ta.v0, .int .i64 ta.v1, .int .i64 ta.v2, .int .i64 ta.n0, .int .i64 ta.n1, .int .i64 ta.n2, .bool ta.f0, .bool ta.f1, .bool ta.f2]) (xs := trCells tris) rfl tyi_37 m2 (trCells_row hta) rfl) ?_
     refine LJ_y rfl rfl (YJ_move rfl) ?_
     refine LJ_call0 rfl rfl rfl rfl rfl (place_c (t := ta) (v := (j : Int))) (fun _ h => nomatch h) ?_
     refine LJ_y rfl rfl (YJ_bin rfl rfl rfl) ?_
     refine LJ_val (v := .bool false) (congrArg Value.bool (decide_eq_false (by omega))) ?_
     refine LJ_y rfl rfl (YJ_pickT rfl rfl) ?_
     refine LJ_y rfl rfl (YJ_pickF rfl rfl) ?_
     refine LJ_nil ?_
     refine QJ_then ?_
     refine CJ_condF rfl ?_
     refine CJ_skip ?_
     refine QJ_in_normal ?_
     refine QJ_then ?_
     refine CJ_reg ?_
     refine LJ_y rfl rfl (YJ_bin rfl rfl (iop_add (by omega))) ?_
     refine LJ_y rfl rfl (YJ_move rfl) ?_
     refine LJ_nil ?_
     refine QJ_roundF (F := fun (i : Nat) => ⟨[(0, .pointer (some ⟨B, 0, none⟩)), (3, .map (some cm)), (4, .map (some om)), (59, .slice h.A ats.length h.ca), (60, .int .i64 ats.length), (61, .int .i64 (i : Nat))], [], []⟩) (I := fun (i : Nat) => i ≤ ats.length) (m := fun (i : Nat) => ats.length - i) (i := j) (j + 1) (μd := []) (by omega) (by omega) (And.intro rfl (And.intro rfl (And.intro rfl (And.intro rfl (And.intro rfl (And.intro rfl (trivial))))))) (permI [] rfl) (fun _ h => nomatch h) (fun _ h => h)
    ·simp only [decide_eq_false_iff_not] at h85
     refine LJ_skip rfl rfl ?_
     refine LJ_skip rfl rfl ?_
     refine LJ_skip rfl rfl ?_
     refine LJ_skip rfl rfl ?_
     refine LJ_skip rfl rfl ?_
     refine LJ_skip rfl rfl ?_
     refine LJ_skip rfl rfl ?_
     refine LJ_skip rfl rfl ?_
     refine LJ_skip rfl rfl ?_
     refine LJ_skip rfl rfl ?_
     refine LJ_y rfl rfl (YJ_pickF rfl rfl) ?_
     refine LJ_y rfl rfl (YJ_pickF rfl rfl) ?_
     refine LJ_nil ?_
     refine QJ_then ?_
     refine CJ_condF rfl ?_
     refine CJ_skip ?_
     refine QJ_in_normal ?_
     refine QJ_then ?_
     refine CJ_reg ?_
     refine LJ_y rfl rfl (YJ_bin rfl rfl (iop_add (by omega))) ?_
     refine LJ_y rfl rfl (YJ_move rfl) ?_
     refine LJ_nil ?_
     refine QJ_roundF (F := fun (i : Nat) => ⟨[(0, .pointer (some ⟨B, 0, none⟩)), (3, .map (some cm)), (4, .map (some om)), (59, .slice h.A ats.length h.ca), (60, .int .i64 ats.length), (61, .int .i64 (i : Nat))], [], []⟩) (I := fun (i : Nat) => i ≤ ats.length) (m := fun (i : Nat) => ats.length - i) (i := j) (j + 1) (μd := []) (by omega) (by omega) (And.intro rfl (And.intro rfl (And.intro rfl (And.intro rfl (And.intro rfl (And.intro rfl (trivial))))))) (permI [] rfl) (fun _ h => nomatch h) (fun _ h => h)
   ·simp only [decide_eq_false_iff_not] at h62
    refine CJ_exit ?_
    refine QJ_then_exit ?_
    refine QJ_then_exit ?_
    refine QJ_in_exit ?_
    refine QJ_then ?_
    refine CJ_seq ?_
    refine CJ_reg ?_
    refine LJ_y rfl rfl (YJ_move rfl) ?_
    refine LJ_y rfl rfl (YJ_lookup (f := gI) (g := gI) (k := (-1 : Int)) rfl rfl umap_70 keyI zer_3 (MapAt_own (l := Lc) (c := cc) m1) rfl) ?_
    refine LJ_val (v := .int .i64 ((mget (-1) Lc).getD 0)) (getD_map) ?_
    refine LJ_y rfl rfl (YJ_bin rfl rfl rfl) ?_
    refine LJ_y rfl rfl (YJ_assign rfl) ?_
    refine LJ_nil ?_
    refine QJ_then ?_
    refine CJ_ret ?_
    refine QJ_fin (.inl rfl) (μ' := []) (μr := _) (φ' := []) (res_tmp rfl rfl) (List.Perm.refl _) (fun _ h => nomatch h) ?_
    exact ⟨congrArg Value.bool (decide_eq_true (by rw [hCI.c0 _ (by decide)]; exact hSt.gh)), rfl, rfl⟩
  ·show LJ _ _ _ _ _ (_ :: _ :: _ :: _) _
   have hem := left_memG he43
   have hke := hCI.kc _ hem.1
   obtain ⟨n0, hn0⟩ := hCI.oc _ hem.1
   obtain ⟨hn1, t0, k0, ht0, hk0, htv⟩ := hCI.o _ _ hn0
   obtain ⟨S9, hf9, hS9⟩ := hSt.cl e43.1 n0.toNat k0 t0 hke.1 ht0 hk0 htv
   rw [Int.toNat_of_nonneg hn1] at hf9
   refine LJ_y rfl rfl (YJ_extract rfl rfl) ?_
   refine LJ_nil ?_
   refine QJ_then ?_
   refine CJ_seq ?_
   refine CJ_condT rfl ?_
   refine CJ_skip ?_
   refine QJ_then ?_
   refine CJ_block ?_
   refine CJ_seq ?_
   refine CJ_reg ?_
   refine LJ_y rfl rfl (YJ_entry (f := gI) (g := gI) rfl m0 (MapAt_own (l := Lc) (c := cc) m1) hem.1 hCI.bn) ?_
   refine LJ_y rfl rfl (YJ_extract rfl rfl) ?_
   refine LJ_y rfl rfl (YJ_extract rfl rfl) ?_
   refine LJ_y rfl rfl (YJ_assign rfl) ?_
   refine LJ_y rfl rfl (YJ_assign rfl) ?_
   refine LJ_nil ?_
   refine QJ_then ?_
   refine CJ_seq ?_
   refine CJ_reg ?_
   refine LJ_y rfl rfl (YJ_move rfl) ?_
   refine LJ_y rfl rfl (YJ_move rfl) ?_
   refine LJ_y rfl rfl (YJ_move rfl) ?_
   refine LJ_y rfl rfl (YJ_move rfl) ?_
   refine LJ_y rfl rfl (YJ_lookup (f := gI) (g := gI) (k := (e43.1)) rfl rfl umap_70 keyI zer_3 (MapAt_own (l := Lo) (c := co) m2) rfl) ?_
   refine LJ_val (v := .int .i64 n0) (by rw [hn0]; rfl) ?_
   refine LJ_callX rfl rfl rfl rfl rfl (round_c (h := h) (pts := pts) (S := S9) hS9 hf9 (by omega)) (at_mesh (fun r h => h)) ?_
   intro m9 hm9
   have hm9e : (m9 : Int) = e43.2.1 := by
    have hn9 : ((n0.toNat : Nat) : Int) = n0 := Int.toNat_of_nonneg hn1
    rw [← hn9] at hm9
    rw [hSt.rd e43.1 n0.toNat k0 t0 m9 hke.1 ht0 hk0 htv hm9]
    have q1 := hCI.c0 e43.1 hke.1
    rw [mget_of_mem hCI.kn hem.1] at q1
    exact q1.symm
   refine LJ_y rfl rfl (YJ_move rfl) ?_
   refine LJ_y rfl rfl (YJ_bin rfl rfl rfl) ?_
   refine LJ_nil ?_
   refine QJ_then ?_
   refine CJ_cond rfl (fun h55 => ?_) (fun h55 => ?_)
   ·simp only [decide_eq_false_iff_not, Bool.not_eq_true'] at h55
    exact absurd hm9e h55
   ·simp only [decide_eq_true_eq, Bool.not_eq_false'] at h55
    refine CJ_skip ?_
    refine QJ_in_normal ?_
    refine QJ_roundF (F := fun (i : List Nat) => ⟨[(0, .pointer (some ⟨B, 0, none⟩)), (3, .map (some cm)), (4, .map (some om)), (42, .pointer (some ⟨it, 0, none⟩))], [itR it cm cc i cc], []⟩) (I := fun (i : List Nat) => True) (m := fun (i : List Nat) => (leftL Lc i).length) (i := seen) (seen ++ [e43.2.2]) (μd := []) trivial (left_ltG he43) (And.intro rfl (And.intro rfl (And.intro rfl (And.intro rfl (trivial))))) (permI [] rfl) (fun _ h => nomatch h) (fun _ h => h)
end Go.Proofs.Ytbanlhlggkdanaa
namespace Go.Proofs.Ytbanlhlggkdanaa
open Go.RowKit
theorem ent_32 : Enter Try.prog 32 = true := by kernel_rfl
theorem zer_70 : zer Try.prog 70 = some (.map none) := by kernel_rfl
theorem tyi_70 : tyi Try.prog 70 = some (false, 1) := by kernel_rfl
def hullE (tris : List Tr) (t : Tr) (s : MI × Nat × Int) (k : Nat) : MI × Nat × Int :=
 if isReal tris (t.n k) then s else (mput (t.v ((k + 1) % 3)) (t.v ((k + 2) % 3)) s.1 s.2.1, mclk (t.v ((k + 1) % 3)) s.1 s.2.1, min s.2.2 (t.v ((k + 1) % 3)))
def hullT (tris : List Tr) (s : MI × Nat × Int) (x : Nat × Tr) : MI × Nat × Int := [0, 1, 2].foldl (hullE tris x.2) s
def hullM (tris : List Tr) (n0 : Int) : MI × Nat × Int := (reals tris).foldl (hullT tris) ([], 0, n0)
def itN (L : MI) : Nat → Int → Int
 | 0, v => v
 | n + 1, v => (mget (itN L n v) L).getD 0
def hullW (s : MI × Nat × Int) : List Int := (List.range s.1.length).map fun i => itN s.1 i s.2.2
def hullOf (tris : List Tr) (n0 : Int) : List Int := hullW (hullM tris n0)
theorem hull_three {tris : List Tr} {t : Tr} {s : MI × Nat × Int} {k : Nat} (hk : k < 3) : ([0, 1, 2].take (k + 1)).foldl (hullE tris t) s = hullE tris t (([0, 1, 2].take k).foldl (hullE tris t) s) k := by
 match k, hk with
 | 0, _ => rfl
 | 1, _ => rfl
 | 2, _ => rfl
theorem hullE_len {tris : List Tr} {t : Tr} {s : MI × Nat × Int} {k : Nat} : (hullE tris t s k).1.length ≤ s.1.length + 1 := by
 unfold hullE
 split
 ·omega
 ·exact mput_len
theorem hull_len {tris : List Tr} : ∀ (l : List (Nat × Tr)) (s : MI × Nat × Int), (l.foldl (hullT tris) s).1.length ≤ s.1.length + 3 * l.length
 | [], s => by simp
 | x :: l, s => by
  have h1 := hull_len (tris := tris) l (hullT tris s x)
  have h2 : (hullT tris s x).1.length ≤ s.1.length + 3 := by
   show (hullE tris x.2 (hullE tris x.2 (hullE tris x.2 s 0) 1) 2).1.length ≤ _
   exact Nat.le_trans hullE_len (Nat.succ_le_succ (Nat.le_trans hullE_len (Nat.succ_le_succ hullE_len)))
  rw [List.foldl_cons, List.length_cons]
  omega
theorem realsF_len : ∀ (l : List Tr) (k : Nat), (realsF k l).length ≤ l.length
 | [], _ => Nat.le_refl _
 | t :: l, k => by
  have := realsF_len l (k + 1)
  unfold realsF
  split
  ·rw [List.length_cons, List.length_cons]; omega
  ·rw [List.length_cons]; omega
theorem range_it (L : MI) (k : Nat) (f : Int) : Iv ((List.range k).map fun i => itN L i f) ++ [.int .i64 (itN L k f)] = Iv ((List.range (k + 1)).map fun i => itN L i f) := by
 rw [List.range_succ, List.map_append, Iv_app]
 rfl
set_option maxRecDepth 100000 in
set_option maxHeartbeats 16000000 in
theorem hull_c {B : Nat} {h : Mh} {pts : List (Int × Int)} {tris : List Tr} (hlen : tris.length ≤ 1000000) : Tri Try.prog 32 [.pointer (some ⟨B, 0, none⟩)] [] (meshFs B h pts tris) (RetX (fun (x : Option Addr × Nat × List Int) => x.2.2 = hullOf tris (pts.length : Nat)) (fun x => .slice x.1 x.2.2.length x.2.1) (fun _ => []) (fun x => [sliceR 1 x.1 x.2.2.length (Iv x.2.2)])) := by
 refine Tri_ofM (N := 63) Try.func32 rfl ent_32 rfl rfl ?_
 intro w0 S0 T0
 show CJ _ _ _ [(0, _)] _ _
 refine CJ_seq ?_
 refine CJ_reg ?_
 refine LJ_box (cs := #[_]) rfl rfl rfl rfl ?_
 intro b1
 refine LJ_y rfl rfl (YJ_assign rfl) ?_
 refine LJ_nil ?_
 refine QJ_then ?_
 refine CJ_seq ?_
 refine CJ_reg ?_
 refine LJ_makeMap rfl rfl ?_
 intro hm
 refine LJ_alloc (cs := #[_]) rfl rfl zer_70 rfl ?_
 intro b3
 refine LJ_store (cs' := #[_]) (μ' := [_, _, _]) 0 rfl rfl rfl rfl tyi_70 rfl (Nat.le_of_ble_eq_true rfl) rfl rfl rfl ?_
 refine LJ_nil ?_
 refine QJ_then ?_
 refine CJ_seq ?_
 refine CJ_reg ?_
 refine LJ_y rfl rfl (YJ_loadL rfl tyi_28 m2 rfl) ?_
 refine LJ_y rfl rfl (YJ_nilCheck rfl) ?_
 refine LJ_y rfl rfl (YJ_fieldOwn rfl fld_57_0 rfl) ?_
 refine LJ_y rfl rfl (YJ_loadFactP (A := some ⟨B, 0, none⟩) (j := 0) rfl rfl tyi_26 m0 rfl) ?_
 refine LJ_y rfl rfl (YJ_len rfl ulen_26 rfl) ?_
 refine LJ_alloc (cs := #[_]) rfl rfl zer_3 rfl ?_
 intro b4
 refine LJ_store (cs' := #[_]) (μ' := [_, _, _, _]) 0 rfl rfl rfl rfl tyi_3 rfl (Nat.le_of_ble_eq_true rfl) rfl rfl rfl ?_
 refine LJ_nil ?_
 refine QJ_then ?_
 refine CJ_seq ?_
 refine CJ_seq ?_
 refine CJ_reg ?_
 refine LJ_y rfl rfl (YJ_loadL rfl tyi_28 m3 rfl) ?_
 refine LJ_callX rfl rfl rfl rfl rfl (all_c (B := B)) (fun _ h => nomatch h) ?_
 intro bA _
 refine LJ_nil ?_
 refine QJ_then ?_
 refine CJ_block ?_
 have hlen9 : tris.length ≤ 1073741824 := by omega
 refine CJ_rangeFunc (μr := []) rfl (all_it (h := h) (pts := pts) (tris := tris) hlen9) (fun r h => h) (fun _ => rfl) (by kernel_rfl) (L := { ι := MI × Nat × Int, I := fun pre s => s = pre.foldl (hullT tris) ([], 0, (pts.length : Nat)), F := fun _ s => ([mapR hm gI gI s.1 s.2.1, cellsR b4 #[.int .i64 s.2.2] 3, cellsR b3 #[.map (some hm)] 70, cellsR b1 #[.pointer (some ⟨B, 0, none⟩)] 28], []), κ := Unit, Ix := fun _ _ _ => False, Fx := fun _ _ => ([], []) }) ([], 0, (pts.length : Nat)) rfl (permI [2] rfl) (fun _ h => nomatch h) ?_ ?_ ?_
 ·intro lR DR fnR tmpsR WR SR TR pre xR iR hpre hI
  obtain ⟨n, t⟩ := xR
  have hti : tris[n]? = some t := (reals_mem.1 (hpre.subset (by simp))).1
  obtain ⟨L0, c0, f0⟩ := iR
  show RJ _ _ _ _ _ ((20, _) :: (19, _) :: _) (objR lR _ :: defR DR :: mapR hm gI gI L0 c0 :: cellsR b4 #[.int .i64 f0] _ :: _ :: _ :: []) _
  refine RJ_reg (by kernel_rfl) ?_
  refine LJ_alloc (cs := #[_, _, _, _, _, _, _, _, _]) rfl rfl zer_37 rfl ?_
  intro b5
  refine LJ_store (cs' := #[_, _, _, _, _, _, _, _, _]) (μ' := [_, _, _, _, _, _, _]) 0 rfl rfl rfl rfl tyi_37 rfl (Nat.le_of_ble_eq_true rfl) rfl (wr_all rfl) rfl ?_
  refine LJ_nil ?_
  refine QJ_begin (μr := [_, _, _, _, _, _]) (permI [1] rfl) ?_
  refine RJ_block ?_
  refine RJ_seq ?_
  refine RJ_reg (by kernel_rfl) ?_
  refine LJ_y rfl rfl (YJ_move rfl) ?_
  refine LJ_nil ?_
  refine QJ_thenR (by repeat with_reducible first | exact no_round | exact no_begin | apply no_then | apply no_block) ?_
  refine RJ_block ?_
  refine RJ_loopF (F := fun (i : Nat × MI × Nat × Int) => ⟨[(1, .pointer (some ⟨b1, 0, none⟩)), (3, .pointer (some ⟨b3, 0, none⟩)), (4, .pointer (some ⟨b4, 0, none⟩)), (6, .pointer (some ⟨b5, 0, none⟩)), (21, .int .i64 (i.1 : Nat))], [mapR hm gI gI i.2.1 i.2.2.1, cellsR b4 #[.int .i64 i.2.2.2] 3], []⟩) (I := fun (i : Nat × MI × Nat × Int) => i.1 ≤ 3 ∧ i.2 = ([0, 1, 2].take i.1).foldl (hullE tris t) (L0, c0, f0)) (m := fun (i : Nat × MI × Nat × Int) => 3 - i.1) (0, L0, c0, f0) (μr := [_, _, _, _, _]) ⟨Nat.zero_le _, rfl⟩ (And.intro rfl (And.intro rfl (And.intro rfl (And.intro rfl (And.intro rfl (trivial)))))) (permI [3, 3] rfl) (fun _ h => nomatch h) ?_
  rintro ⟨k, L1, c1, f1⟩ ⟨hk, hs⟩
  try dsimp only at hk
  try dsimp only at hs
  show RJ _ _ _ _ _ [(1, .pointer (some ⟨b1, 0, none⟩)), (3, .pointer (some ⟨b3, 0, none⟩)), (4, .pointer (some ⟨b4, 0, none⟩)), (6, .pointer (some ⟨b5, 0, none⟩)), (21, .int .i64 (k : Nat))] (mapR hm gI gI L1 c1 :: cellsR b4 #[.int .i64 f1] 3 :: _ :: _ :: _ :: _ :: _ :: _) _
  refine RJ_seq ?_
  refine RJ_reg (by kernel_rfl) ?_
  refine LJ_y rfl rfl (YJ_bin rfl rfl rfl) ?_
  refine LJ_nil ?_
  refine QJ_thenR (by repeat with_reducible first | exact no_round | exact no_begin | apply no_then | apply no_block) ?_
  refine RJ_seq ?_
  refine RJ_cond rfl (fun h22 => ?_) (fun h22 => ?_)
  ·simp only [decide_eq_true_eq] at h22
   have hk3 : k < 3 := by omega
   refine RJ_skip ?_
   refine QJ_thenR (by repeat with_reducible first | exact no_round | exact no_begin | apply no_then | apply no_block) ?_
   refine RJ_seq ?_
   refine RJ_block ?_
   refine RJ_seq ?_
   refine RJ_reg (by kernel_rfl) ?_
   refine LJ_y rfl rfl (YJ_move rfl) ?_
   refine LJ_y rfl rfl (YJ_assign rfl) ?_
   refine LJ_nil ?_
   refine QJ_thenR (by repeat with_reducible first | exact no_round | exact no_begin | apply no_then | apply no_block) ?_
   refine RJ_seq ?_
   refine RJ_regD mix (by kernel_rfl) (fun _ _ _ _ _ h => h) _ _ (fun _ h => h) (fun _ h => h) (by kernel_rfl) ?_
   refine AJ_y 0 rfl (by kernel_rfl) (by kernel_rfl) rfl rfl (YJ_loadL rfl tyi_28 m6 rfl) ?_
   refine AJ_y 1 rfl (by kernel_rfl) (by kernel_rfl) rfl rfl (YJ_move rfl) ?_
   refine AJ_y 2 rfl (by kernel_rfl) (by kernel_rfl) rfl rfl (YJ_fieldOwn rfl fld_37_1 rfl) ?_
   refine AJ_y 3 rfl (by kernel_rfl) (by kernel_rfl) rfl rfl (YJ_ixArr rfl rfl arrt_34 (by omega) (by omega) rfl) ?_
   refine AJ_y 4 rfl (by kernel_rfl) (by kernel_rfl) rfl rfl (YJ_load1 rfl tyi_3 m3 (na_get (t := t) hk3)) ?_
   refine AJ_call0 5 rfl (by kernel_rfl) rfl rfl rfl rfl rfl (real_c (h := h) (pts := pts) (tris := tris)) (fun r h => .tail _ h) ?_
   refine AJ_y 6 rfl (by kernel_rfl) (by kernel_rfl) rfl rfl (YJ_not rfl) ?_
   refine AJ_done (by kernel_rfl) ?_
   refine QJ_thenR (by repeat with_reducible first | exact no_round | exact no_begin | apply no_then | apply no_block) ?_
   refine RJ_cond rfl (fun h30 => ?_) (fun h30 => ?_)
   ·simp only [decide_eq_false_iff_not, Bool.not_eq_true'] at h30
    refine RJ_seq ?_
    refine RJ_reg (by kernel_rfl) ?_
    refine LJ_y rfl rfl (YJ_move rfl) ?_
    refine LJ_y rfl rfl (YJ_bin rfl rfl (iop_add (by omega))) ?_
    refine LJ_y rfl rfl (YJ_rem rfl rfl (by first | decide | omega)) ?_
    refine LJ_val (v := .int .i64 (((k + 1) % 3 : Nat) : Int)) (congrArg (Value.int .i64) (tm3 (j := 1) hk3 (by decide))) ?_
    refine LJ_y rfl rfl (YJ_fieldOwn rfl fld_37_0 rfl) ?_
    refine LJ_y rfl rfl (YJ_ixArr rfl rfl arrt_34 (by omega) (by omega) rfl) ?_
    refine LJ_y rfl rfl (YJ_load1 rfl tyi_3 m3 (v_get (t := t) (Nat.mod_lt (k + 1) (by decide)))) ?_
    refine LJ_y rfl rfl (YJ_assign rfl) ?_
    refine LJ_nil ?_
    refine QJ_thenR (by repeat with_reducible first | exact no_round | exact no_begin | apply no_then | apply no_block) ?_
    refine RJ_seq ?_
    refine RJ_regD mix (by kernel_rfl) (fun _ _ _ _ _ h => h) (selR [1, 2, 3, 4, 5, 6] _) _ (selR_sub _ _) (fun _ h => h) (by kernel_rfl) ?_
    refine AJ_y 0 rfl (by kernel_rfl) (by kernel_rfl) rfl rfl (YJ_loadL rfl tyi_70 m4 rfl) ?_
    refine AJ_y 1 rfl (by kernel_rfl) (by kernel_rfl) rfl rfl (YJ_move rfl) ?_
    refine AJ_y 2 rfl (by kernel_rfl) (by kernel_rfl) rfl rfl (YJ_move rfl) ?_
    refine AJ_y 3 rfl (by kernel_rfl) (by kernel_rfl) rfl rfl (YJ_bin rfl rfl (iop_add (by omega))) ?_
    refine AJ_y 4 rfl (by kernel_rfl) (by kernel_rfl) rfl rfl (YJ_rem rfl rfl (by first | decide | omega)) ?_
    refine AJ_val (v := .int .i64 (((k + 2) % 3 : Nat) : Int)) (congrArg (Value.int .i64) (tm3 (j := 2) hk3 (by decide))) ?_
    refine AJ_y 5 rfl (by kernel_rfl) (by kernel_rfl) rfl rfl (YJ_fieldOwn rfl fld_37_0 rfl) ?_
    refine AJ_y 6 rfl (by kernel_rfl) (by kernel_rfl) rfl rfl (YJ_ixArr rfl rfl arrt_34 (by omega) (by omega) rfl) ?_
    refine AJ_y 7 rfl (by kernel_rfl) (by kernel_rfl) rfl rfl (YJ_load1 rfl tyi_3 m2 (v_get (t := t) (Nat.mod_lt (k + 2) (by decide)))) ?_
    refine AJ_mapUpdate (f := gI) (g := gI) (k := (t.v ((k + 1) % 3))) (v := (t.v ((k + 2) % 3))) 8 0 rfl (by kernel_rfl) rfl rfl rfl rfl rfl umap_70 keyI rfl rfl (AllIn.sub (And.intro m1 (And.intro m2 (And.intro m3 (And.intro m4 (And.intro m5 (And.intro m6 (trivial)))))))) ?_
    show AJ _ _ _ _ _ _ _ _ (_ :: _ :: _ :: _ :: _ :: _ :: _ :: _) _
    refine AJ_done (by kernel_rfl) ?_
    refine QJ_thenR (by repeat with_reducible first | exact no_round | exact no_begin | apply no_then | apply no_block) ?_
    refine RJ_reg (by kernel_rfl) ?_
    refine LJ_y rfl rfl (YJ_loadL rfl tyi_3 m1 rfl) ?_
    refine LJ_y rfl rfl (YJ_move rfl) ?_
    refine LJ_y rfl rfl (YJ_min2 rfl rfl) ?_
    refine LJ_store (cs' := #[_]) (μ' := [_, _, _, _, _, _, _]) 1 rfl rfl rfl rfl tyi_3 rfl (Nat.le_of_ble_eq_true rfl) rfl rfl rfl ?_
    refine LJ_nil ?_
    refine QJ_in_normal ?_
    refine QJ_thenR (by repeat with_reducible first | exact no_round | exact no_begin | apply no_then | apply no_block) ?_
    refine RJ_reg (by kernel_rfl) ?_
    refine LJ_y rfl rfl (YJ_bin rfl rfl (iop_add (by omega))) ?_
    refine LJ_y rfl rfl (YJ_move rfl) ?_
    refine LJ_nil ?_
    refine QJ_roundF (F := fun (i : Nat × MI × Nat × Int) => ⟨[(1, .pointer (some ⟨b1, 0, none⟩)), (3, .pointer (some ⟨b3, 0, none⟩)), (4, .pointer (some ⟨b4, 0, none⟩)), (6, .pointer (some ⟨b5, 0, none⟩)), (21, .int .i64 (i.1 : Nat))], [mapR hm gI gI i.2.1 i.2.2.1, cellsR b4 #[.int .i64 i.2.2.2] 3], []⟩) (I := fun (i : Nat × MI × Nat × Int) => i.1 ≤ 3 ∧ i.2 = ([0, 1, 2].take i.1).foldl (hullE tris t) (L0, c0, f0)) (m := fun (i : Nat × MI × Nat × Int) => 3 - i.1) (i := (k, L1, c1, f1)) ((k + 1, mput (t.v ((k + 1) % 3)) (t.v ((k + 2) % 3)) L1 c1, mclk (t.v ((k + 1) % 3)) L1 c1, min f1 (t.v ((k + 1) % 3)))) (μd := []) ⟨by omega, by dsimp only; rw [hull_three hk3, ← hs]; unfold hullE; rw [if_neg h30]⟩ (by dsimp only; omega) (And.intro rfl (And.intro rfl (And.intro rfl (And.intro rfl (And.intro rfl (trivial)))))) (permI [] rfl) (fun _ h => nomatch h) (fun _ h => h)
   ·simp only [decide_eq_true_eq, Bool.not_eq_false'] at h30
    refine RJ_skip ?_
    refine QJ_in_normal ?_
    refine QJ_thenR (by repeat with_reducible first | exact no_round | exact no_begin | apply no_then | apply no_block) ?_
    refine RJ_reg (by kernel_rfl) ?_
    refine LJ_y rfl rfl (YJ_bin rfl rfl (iop_add (by omega))) ?_
    refine LJ_y rfl rfl (YJ_move rfl) ?_
    refine LJ_nil ?_
    refine QJ_roundF (F := fun (i : Nat × MI × Nat × Int) => ⟨[(1, .pointer (some ⟨b1, 0, none⟩)), (3, .pointer (some ⟨b3, 0, none⟩)), (4, .pointer (some ⟨b4, 0, none⟩)), (6, .pointer (some ⟨b5, 0, none⟩)), (21, .int .i64 (i.1 : Nat))], [mapR hm gI gI i.2.1 i.2.2.1, cellsR b4 #[.int .i64 i.2.2.2] 3], []⟩) (I := fun (i : Nat × MI × Nat × Int) => i.1 ≤ 3 ∧ i.2 = ([0, 1, 2].take i.1).foldl (hullE tris t) (L0, c0, f0)) (m := fun (i : Nat × MI × Nat × Int) => 3 - i.1) (i := (k, L1, c1, f1)) ((k + 1, L1, c1, f1)) (μd := []) ⟨by omega, by dsimp only; rw [hull_three hk3, ← hs]; unfold hullE; rw [if_pos h30]⟩ (by dsimp only; omega) (And.intro rfl (And.intro rfl (And.intro rfl (And.intro rfl (And.intro rfl (trivial)))))) (permI [] rfl) (fun _ h => nomatch h) (fun _ h => h)
  ·simp only [decide_eq_false_iff_not] at h22
   refine RJ_exit ?_
   refine QJ_then_exit ?_
   refine QJ_then_exit ?_
   refine QJ_in_exit ?_
   refine QJ_in_normal ?_
   refine QJ_again (μ1 := [_, _, _, _, _]) (μ2 := [_]) (φ1 := []) (permI [2, 3, 0, 0, 1, 1] rfl) (fun _ h => nomatch h) ?_
   exact .inl ⟨rfl, (L1, c1, f1), (by
    have hI3 : (L0, c0, f0) = pre.foldl (hullT tris) ([], 0, (pts.length : Nat)) := hI
    show (L1, c1, f1) = (pre ++ [(n, t)]).foldl (hullT tris) ([], 0, (pts.length : Nat))
    rw [List.foldl_append, ← hI3]
    show (L1, c1, f1) = hullT tris (L0, c0, f0) (n, t)
    rw [hs, List.take_of_length_le (by simp; omega)]
    rfl), rfl, rfl⟩
 ·intro D0 iR hI
  obtain ⟨L9, c9, f9⟩ := iR
  have hI2 : (L9, c9, f9) = hullM tris (pts.length : Nat) := hI
  have hL9 : L9.length ≤ 3000000 := by
   have q1 := hull_len (tris := tris) (reals tris) ([], 0, (pts.length : Nat))
   have q2 := realsF_len tris 0
   have q3 : ((reals tris).foldl (hullT tris) ([], 0, (pts.length : Nat))).1 = L9 := (congrArg Prod.fst hI2).symm
   rw [q3] at q1
   simp only [List.length_nil] at q1
   unfold reals at q1
   omega
  show QJ _ _ _ _ (defR D0 :: mapR hm gI gI L9 c9 :: cellsR b4 #[.int .i64 f9] _ :: _ :: _ :: _) _
  refine QJ_in_normal ?_
  refine QJ_then ?_
  refine CJ_seq ?_
  refine CJ_newRow 3 1 ?_
  refine CJ_reg ?_
  refine LJ_y rfl rfl (YJ_assign rfl) ?_
  refine LJ_nil ?_
  refine QJ_then ?_
  refine CJ_seq ?_
  refine CJ_seq ?_
  refine CJ_reg ?_
  refine LJ_y rfl rfl (YJ_loadL rfl tyi_3 m3 rfl) ?_
  refine LJ_y rfl rfl (YJ_assign rfl) ?_
  refine LJ_nil ?_
  refine QJ_then ?_
  refine CJ_block ?_
  refine CJ_loopF (F := fun (i : Nat × Option Addr × Nat) => ⟨[(3, .pointer (some ⟨b3, 0, none⟩)), (9, .slice i.2.1 i.1 i.2.2), (10, .int .i64 (itN L9 i.1 f9))], [rowR 3 1 i.2.1 i.1 i.2.2 (Iv ((List.range i.1).map fun q => itN L9 q f9))], []⟩) (I := fun (i : Nat × Option Addr × Nat) => i.1 ≤ L9.length) (m := fun (i : Nat × Option Addr × Nat) => L9.length - i.1) (0, none, 0) (μr := [_, _, _, _, _]) (Nat.zero_le _) (And.intro rfl (And.intro rfl (And.intro rfl (trivial)))) (permI [] rfl) (fun _ h => nomatch h) ?_
  rintro ⟨k, A0, c0⟩ hk
  try dsimp only at hk
  show CJ _ _ _ [(3, .pointer (some ⟨b3, 0, none⟩)), (9, .slice A0 k c0), (10, .int .i64 (itN L9 k f9))] (rowR 3 1 A0 k c0 (Iv ((List.range k).map fun q => itN L9 q f9)) :: _ :: _ :: _ :: _ :: _ :: _) _
  refine CJ_seq ?_
  refine CJ_seq ?_
  refine CJ_reg ?_
  refine LJ_y rfl rfl (YJ_move rfl) ?_
  refine LJ_y rfl rfl (YJ_len rfl ulen_55 rfl) ?_
  refine LJ_y rfl rfl (YJ_loadL rfl tyi_70 m4 rfl) ?_
  refine LJ_y rfl rfl (YJ_lenMap (f := gI) (g := gI) rfl umap_70 (MapAt_own (l := L9) (c := c9) m2) rfl) ?_
  refine LJ_y rfl rfl (YJ_bin rfl rfl rfl) ?_
  refine LJ_nil ?_
  refine QJ_then ?_
  refine CJ_cond rfl (fun h54 => ?_) (fun h54 => ?_)
  ·simp only [decide_eq_true_eq] at h54
   refine CJ_skip ?_
   refine QJ_then ?_
   refine CJ_seq ?_
   refine CJ_block ?_
   refine CJ_reg ?_
   refine LJ_y rfl rfl (YJ_move rfl) ?_
   refine LJ_y rfl rfl (YJ_move rfl) ?_
   refine LJ_buildSlice (cs := [_]) rfl rfl elt_55 zer_3 rfl (by decide) (pvs := [(_, _)]) rfl rfl rfl ?_
   intro b6
   refine LJ_append 1 rfl rfl elt_55 zer_3 rfl rfl rfl rfl (Rd_own m0) rfl rfl (by omega) (by omega) (by decide) (range_it L9 k f9) ?_
   intro A61 c61
   show LJ _ _ _ _ _ (_ :: _ :: _ :: _ :: _ :: _ :: _ :: _) _
   refine LJ_y rfl rfl (YJ_assign rfl) ?_
   refine LJ_nil ?_
   refine QJ_in_normal ?_
   refine QJ_then ?_
   refine CJ_reg ?_
   refine LJ_y rfl rfl (YJ_loadL rfl tyi_70 m5 rfl) ?_
   refine LJ_y rfl rfl (YJ_move rfl) ?_
   refine LJ_y rfl rfl (YJ_lookup (f := gI) (g := gI) (k := (itN L9 k f9)) rfl rfl umap_70 keyI zer_3 (MapAt_own (l := L9) (c := c9) m3) rfl) ?_
   refine LJ_val (v := .int .i64 (itN L9 (k + 1) f9)) (getD_map) ?_
   refine LJ_y rfl rfl (YJ_assign rfl) ?_
   refine LJ_nil ?_
   refine QJ_roundF (F := fun (i : Nat × Option Addr × Nat) => ⟨[(3, .pointer (some ⟨b3, 0, none⟩)), (9, .slice i.2.1 i.1 i.2.2), (10, .int .i64 (itN L9 i.1 f9))], [rowR 3 1 i.2.1 i.1 i.2.2 (Iv ((List.range i.1).map fun q => itN L9 q f9))], []⟩) (I := fun (i : Nat × Option Addr × Nat) => i.1 ≤ L9.length) (m := fun (i : Nat × Option Addr × Nat) => L9.length - i.1) (i := (k, A0, c0)) ((k + 1, A61, c61)) (μd := [_]) (by dsimp only; omega) (by dsimp only; omega) (And.intro rfl (And.intro rfl (And.intro rfl (trivial)))) (permI [1, 1, 1, 1, 1, 1] rfl) (fun _ h => nomatch h) (fun _ h => h)
  ·simp only [decide_eq_false_iff_not] at h54
   have hk9 : L9.length = k := by omega
   subst hk9
   refine CJ_exit ?_
   refine QJ_then_exit ?_
   refine QJ_then_exit ?_
   refine QJ_in_exit ?_
   refine QJ_then ?_
   refine CJ_seq ?_
   refine CJ_freezeRowK (n' := L9.length) (xs' := Iv ((List.range L9.length).map fun i => itN L9 i f9)) 0 rfl rfl rfl ?_
   show CJ _ _ _ _ (_ :: _ :: _ :: _ :: _ :: _) _
   refine CJ_reg ?_
   refine LJ_y rfl rfl (YJ_move rfl) ?_
   refine LJ_y rfl rfl (YJ_assign rfl) ?_
   refine LJ_nil ?_
   refine QJ_then ?_
   refine CJ_ret ?_
   refine QJ_finM (.inl rfl) [D0] rfl (μ' := []) (μr := [_, _, _, _]) (φ' := [sliceR 1 A0 L9.length (Iv ((List.range L9.length).map fun i => itN L9 i f9))]) (res_tmp rfl rfl) (permI [] rfl) (AllIn.sub (And.intro m0 trivial)) ?_
   exact ⟨(A0, c0, hullW (L9, c9, f9)), by show hullW (L9, c9, f9) = hullOf tris _; rw [hI2]; rfl, by simp [hullW], rfl, by simp [hullW]⟩
 ·exact fun _ _ _ _ _ h => h.elim
end Go.Proofs.Ytbanlhlggkdanaa
namespace Go.Proofs.Ytbanlhlggkdanaa
open Go.RowKit
theorem ent_63 : Enter Try.prog 63 = true := by kernel_rfl
abbrev A2p (pts : List (Int × Int)) (a b c : Int) : Int := A2 (ptAt pts a).1 (ptAt pts a).2 (ptAt pts b).1 (ptAt pts b).2 (ptAt pts c).1 (ptAt pts c).2
def sumA (pts : List (Int × Int)) (l : List (Nat × Tr)) : Int := (l.map fun x => A2p pts x.2.v0 x.2.v1 x.2.v2).sum
def outT (pts : List (Int × Int)) (l : List Int) (k : Nat) : Int := A2p pts (l.getD 0 0) (l.getD k 0) (l.getD ((k + 1) % l.length) 0)
def outA (pts : List (Int × Int)) (l : List Int) (k : Nat) : Int := ((List.range k).map (outT pts l)).sum
theorem sumA_app (pts : List (Int × Int)) (l : List (Nat × Tr)) (x : Nat × Tr) : sumA pts (l ++ [x]) = sumA pts l + A2p pts x.2.v0 x.2.v1 x.2.v2 := by
 unfold sumA
 rw [List.map_append, List.sum_append]
 simp
theorem outA_succ (pts : List (Int × Int)) (l : List Int) (k : Nat) : outA pts l (k + 1) = outA pts l k + outT pts l k := by
 unfold outA
 rw [List.range_succ, List.map_append, List.sum_append]
 simp
theorem dl_sum {s : Int} {n : Nat} (h : s.natAbs ≤ n * 170141183460469231731687303715884105728) (hn : n ≤ 10000000) : dl s ≤ 3 := dl_le (by
 have e : BB ^ 3 = 6277101735386680763835789423207666416102355444464034512896 := by decide
 rw [e]
 omega)
theorem A2_abs {a1 a2 e1 e2 c1 c2 : Int} (ha : P2 a1 a2) (hb : P2 e1 e2) (hc : P2 c1 c2) : (A2 a1 a2 e1 e2 c1 c2).natAbs ≤ 170141183460469231731687303715884105728 := by
 have := A2_r ha hb hc
 unfold R128 at this
 omega
theorem hullOf_len (tris : List Tr) (n0 : Int) : (hullOf tris n0).length ≤ 3 * tris.length := by
 have q1 := hull_len (tris := tris) (reals tris) ([], 0, n0)
 have q2 := realsF_len tris 0
 have q3 : (hullOf tris n0).length = ((reals tris).foldl (hullT tris) ([], 0, n0)).1.length := by
  unfold hullOf hullW hullM
  rw [List.length_map, List.length_range]
 rw [q3]
 simp only [List.length_nil] at q1
 unfold reals at q1 ⊢
 omega
theorem tmn {k n : Nat} (h : 0 < n) : ((k : Int) + 1).tmod ((n : Nat) : Int) = (((k + 1) % n : Nat) : Int) := by
 rw [Int.tmod_eq_emod_of_nonneg (by omega)]
 exact (Int.natCast_emod (k + 1) n).symm
theorem getD_of {l : List Int} {k : Nat} {a : Int} (h : l[k]? = some a) : l.getD k 0 = a := by rw [List.getD_eq_getElem?_getD, h]; rfl
theorem Iv_at {l : List Int} {k : Nat} {a : Int} (h : l[k]? = some a) : (Iv l)[k]? = some (.int .i64 a) := by rw [Iv, List.getElem?_map, h]; rfl
set_option maxRecDepth 100000 in
set_option maxHeartbeats 32000000 in
theorem area_c {B : Nat} {h : Mh} {pts : List (Int × Int)} {tris : List Tr} {l9 : List Int} (hP : ∀ j, j < pts.length → P2 (pts.getD j (0, 0)).1 (pts.getD j (0, 0)).2) (hT : okTris pts tris) (hlen : tris.length ≤ 1000000) (hl9 : hullOf tris (pts.length : Nat) = l9) (hlv : ∀ v, v ∈ l9 → 0 ≤ v ∧ v < pts.length) (hcv : ∀ (i : Nat) (a b c : Int), l9[i]? = some a → l9[(i + 1) % l9.length]? = some b → c ∈ l9 → 0 ≤ A2p pts a b c) (hsum : sumA pts (reals tris) = outA pts l9 l9.length) : Tri Try.prog 63 [.pointer (some ⟨B, 0, none⟩)] [] (meshFs B h pts tris) (Ret0 (.bool true)) := by
 refine Tri_ofM (N := 133) Try.func63 rfl ent_63 rfl rfl ?_
 intro w0 S0 T0
 show CJ _ _ _ [(0, _)] _ _
 have hlen9 : tris.length ≤ 1073741824 := by omega
 have hl9n : l9.length ≤ 3000000 := by
  have := hullOf_len tris (pts.length : Nat)
  rw [hl9] at this
  omega
 have hrl : (reals tris).length ≤ tris.length := realsF_len tris 0
 refine CJ_seq ?_
 refine CJ_reg ?_
 refine LJ_box (cs := #[_]) rfl rfl rfl rfl ?_
 intro b1
 refine LJ_y rfl rfl (YJ_assign rfl) ?_
 refine LJ_nil ?_
 refine QJ_then ?_
 refine CJ_seq ?_
 refine CJ_reg ?_
 refine LJ_callX rfl rfl rfl rfl rfl (nof_c (z := 0) (by unfold I64; decide)) (AllIn.sub (by first | exact trivial | exact And.intro (by repeat first | exact .head _ | apply List.Mem.tail) trivial | exact And.intro (by repeat first | exact .head _ | apply List.Mem.tail) (And.intro (by repeat first | exact .head _ | apply List.Mem.tail) trivial))) ?_
 rintro ⟨A16, k16⟩ hcap16
 dsimp only at hcap16
 dsimp only [List.cons_append, List.nil_append]
 refine LJ_callX rfl rfl rfl rfl rfl (nof_c (z := 0) (by unfold I64; decide)) (AllIn.sub (by first | exact trivial | exact And.intro (by repeat first | exact .head _ | apply List.Mem.tail) trivial | exact And.intro (by repeat first | exact .head _ | apply List.Mem.tail) (And.intro (by repeat first | exact .head _ | apply List.Mem.tail) trivial))) ?_
 rintro ⟨A17, k17⟩ hcap17
 dsimp only at hcap17
 dsimp only [List.cons_append, List.nil_append]
 refine LJ_alloc (cs := #[_, _]) rfl rfl zer_100 rfl ?_
 intro b2
 refine LJ_alloc (cs := #[_, _]) rfl rfl zer_100 rfl ?_
 intro b3
 refine LJ_store (cs' := #[_, _]) (μ' := [_, _, _]) 1 rfl rfl rfl rfl tyi_100 rfl (Nat.le_of_ble_eq_true rfl) rfl rfl rfl ?_
 refine LJ_store (cs' := #[_, _]) (μ' := [_, _, _]) 0 rfl rfl rfl rfl tyi_100 rfl (Nat.le_of_ble_eq_true rfl) rfl rfl rfl ?_
 refine LJ_nil ?_
 refine QJ_then ?_
 refine CJ_seq ?_
 refine CJ_seq ?_
 refine CJ_reg ?_
 refine LJ_y rfl rfl (YJ_loadL rfl tyi_28 m2 rfl) ?_
 refine LJ_callX rfl rfl rfl rfl rfl (all_c (B := B)) (fun _ h => nomatch h) ?_
 intro bA _
 refine LJ_nil ?_
 refine QJ_then ?_
 refine CJ_block ?_
 refine CJ_rangeFunc (μr := [_]) rfl (all_it (h := h) (pts := pts) (tris := tris) hlen9) (all_sub (fun r h => .tail _ (.tail _ h))) (fun _ => rfl) (by kernel_rfl) (L := { ι := Int × Option Addr × Nat, I := fun pre s => s.1 = sumA pts pre ∧ s.1.natAbs ≤ pre.length * 170141183460469231731687303715884105728 ∧ dl s.1 ≤ s.2.2, F := fun _ s => ([cellsR b2 #[.bool (decide (s.1 < 0)), .slice s.2.1 (dl s.1) s.2.2] 100, cellsR b1 #[.pointer (some ⟨B, 0, none⟩)] 28], [numF s.1 s.2.1]), κ := Unit, Ix := fun _ _ _ => False, Fx := fun _ _ => ([], []) }) (0, A16, k16) ⟨rfl, by simp, hcap16⟩ (permI [1, 1] rfl) (AllIn.sub (And.intro m2 trivial)) ?_ ?_ ?_
 ·intro lR DR fnR tmpsR WR SR TR pre xR iR hpre hI
  obtain ⟨n, t⟩ := xR
  obtain ⟨hti, htr, hto⟩ := okAt hT hpre
  obtain ⟨⟨hv0, hw0⟩, ⟨hv1, hw1⟩, ⟨hv2, hw2⟩⟩ := hto
  obtain ⟨s0, A0, c0⟩ := iR
  obtain ⟨hs0, hs1, hs2⟩ := hI
  dsimp only at hs0 hs1 hs2
  have hpl := hpre.length_le
  rw [List.length_append, List.length_singleton] at hpl
  have hab : (A2p pts t.v0 t.v1 t.v2).natAbs ≤ 170141183460469231731687303715884105728 := A2_abs (hP (t.v0).toNat (by omega)) (hP (t.v1).toNat (by omega)) (hP (t.v2).toNat (by omega))
  show RJ _ _ _ _ _ ((21, _) :: (20, _) :: _) (objR lR _ :: defR DR :: cellsR b2 #[.bool (decide (s0 < 0)), .slice A0 (dl s0) c0] 100 :: _ :: []) ([numF s0 A0] ++ _)
  refine RJ_reg (by kernel_rfl) ?_
  refine LJ_alloc (cs := #[_, _, _, _, _, _, _, _, _]) rfl rfl zer_37 rfl ?_
  intro b4
  refine LJ_store (cs' := #[_, _, _, _, _, _, _, _, _]) (μ' := [_, _, _, _, _]) 0 rfl rfl rfl rfl tyi_37 rfl (Nat.le_of_ble_eq_true rfl) rfl (wr_all rfl) rfl ?_
  refine LJ_nil ?_
  refine QJ_begin (μr := [_, _, _, _]) (permI [1] rfl) ?_
  refine RJ_block ?_
  refine RJ_seq ?_
  refine RJ_regDA mix (by kernel_rfl) (fun _ _ _ _ _ h => h) _ _ (fun _ h => h) (fun _ h => h) (by kernel_rfl) [⟨27, 7, 23, #[.int .i64 0, .int .i64 0]⟩, ⟨28, 8, 23, #[.int .i64 0, .int .i64 0]⟩, ⟨29, 9, 23, #[.int .i64 0, .int .i64 0]⟩] 30 rfl (And.intro ⟨_, _, _, _, rfl, zer_23, rfl⟩ (And.intro ⟨_, _, _, _, rfl, zer_23, rfl⟩ (And.intro ⟨_, _, _, _, rfl, zer_23, rfl⟩ (trivial)))) rfl rfl ?_
  refine AA_y 0 rfl (by kernel_rfl) rfl rfl rfl (YJ_loadL rfl tyi_28 m4 rfl) ?_
  refine AA_y 1 rfl (by kernel_rfl) rfl rfl rfl (YJ_nilCheck rfl) ?_
  refine AA_y 2 rfl (by kernel_rfl) rfl rfl rfl (YJ_fieldOwn rfl fld_57_0 rfl) ?_
  refine AA_y 3 rfl (by kernel_rfl) rfl rfl rfl (YJ_loadFactP (A := some ⟨B, 0, none⟩) (j := 0) rfl rfl tyi_26 m4 rfl) ?_
  refine AA_y 4 rfl (by kernel_rfl) rfl rfl rfl (YJ_fieldOwn rfl fld_37_0 rfl) ?_
  refine AA_y 5 rfl (by kernel_rfl) rfl rfl rfl (YJ_ixArr rfl rfl arrt_34 (by omega) (by omega) rfl) ?_
  refine AA_y 6 rfl (by kernel_rfl) rfl rfl rfl (YJ_loadL rfl tyi_3 m1 rfl) ?_
  refine AA_y 7 rfl (by kernel_rfl) rfl rfl rfl (YJ_ixFact rfl rfl elt_26 m5 (by decide) (by omega) (by omega) (by omega)) ?_
  refine AA_y 8 rfl (by kernel_rfl) rfl rfl rfl (YJ_loadFactN (vs := [_, _]) (xs := ptCells pts) rfl tyi_23 m5 (ptCells_get (i := (t.v0).toNat) (by omega)) rfl) ?_
  refine AA_y 9 rfl (by kernel_rfl) rfl rfl rfl (YJ_loadL rfl tyi_28 m4 rfl) ?_
  refine AA_y 10 rfl (by kernel_rfl) rfl rfl rfl (YJ_nilCheck rfl) ?_
  refine AA_y 11 rfl (by kernel_rfl) rfl rfl rfl (YJ_fieldOwn rfl fld_57_0 rfl) ?_
  refine AA_y 12 rfl (by kernel_rfl) rfl rfl rfl (YJ_loadFactP (A := some ⟨B, 0, none⟩) (j := 0) rfl rfl tyi_26 m4 rfl) ?_
  refine AA_y 13 rfl (by kernel_rfl) rfl rfl rfl (YJ_fieldOwn rfl fld_37_0 rfl) ?_
  refine AA_y 14 rfl (by kernel_rfl) rfl rfl rfl (YJ_ixArr rfl rfl arrt_34 (by omega) (by omega) rfl) ?_
  refine AA_y 15 rfl (by kernel_rfl) rfl rfl rfl (YJ_loadL rfl tyi_3 m1 rfl) ?_
  refine AA_y 16 rfl (by kernel_rfl) rfl rfl rfl (YJ_ixFact rfl rfl elt_26 m5 (by decide) (by omega) (by omega) (by omega)) ?_
  refine AA_y 17 rfl (by kernel_rfl) rfl rfl rfl (YJ_loadFactN (vs := [_, _]) (xs := ptCells pts) rfl tyi_23 m5 (ptCells_get (i := (t.v1).toNat) (by omega)) rfl) ?_
  refine AA_y 18 rfl (by kernel_rfl) rfl rfl rfl (YJ_loadL rfl tyi_28 m4 rfl) ?_
  refine AA_y 19 rfl (by kernel_rfl) rfl rfl rfl (YJ_nilCheck rfl) ?_
  refine AA_y 20 rfl (by kernel_rfl) rfl rfl rfl (YJ_fieldOwn rfl fld_57_0 rfl) ?_
  refine AA_y 21 rfl (by kernel_rfl) rfl rfl rfl (YJ_loadFactP (A := some ⟨B, 0, none⟩) (j := 0) rfl rfl tyi_26 m4 rfl) ?_
  refine AA_y 22 rfl (by kernel_rfl) rfl rfl rfl (YJ_fieldOwn rfl fld_37_0 rfl) ?_
  refine AA_y 23 rfl (by kernel_rfl) rfl rfl rfl (YJ_ixArr rfl rfl arrt_34 (by omega) (by omega) rfl) ?_
  refine AA_y 24 rfl (by kernel_rfl) rfl rfl rfl (YJ_loadL rfl tyi_3 m1 rfl) ?_
  refine AA_y 25 rfl (by kernel_rfl) rfl rfl rfl (YJ_ixFact rfl rfl elt_26 m5 (by decide) (by omega) (by omega) (by omega)) ?_
  refine AA_y 26 rfl (by kernel_rfl) rfl rfl rfl (YJ_loadFactN (vs := [_, _]) (xs := ptCells pts) rfl tyi_23 m5 (ptCells_get (i := (t.v2).toNat) (by omega)) rfl) ?_
  refine AA_end (by kernel_rfl) rfl ?_
  intro bs hbs
  obtain ⟨b5, b6, b7, rfl⟩ := len_3 hbs
  clear hbs
  show AJ _ _ _ _ _ _ _ ((7, .pointer (some ⟨b5, 0, none⟩)) :: (8, .pointer (some ⟨b6, 0, none⟩)) :: (9, .pointer (some ⟨b7, 0, none⟩)) :: _) (cellsR b5 _ _ :: cellsR b6 _ _ :: cellsR b7 _ _ :: _) _
  refine AJ_store (cs' := #[_, _]) (μ' := [_, _, _, _, _, _, _, _]) 30 0 rfl (by kernel_rfl) rfl rfl rfl rfl tyi_23 rfl (Nat.le_of_ble_eq_true rfl) rfl rfl rfl (fun _ => AllIn.sub (And.intro m3 (And.intro m4 (And.intro m5 (And.intro m6 (And.intro m7 (trivial))))))) ?_
  refine AJ_store (cs' := #[_, _]) (μ' := [_, _, _, _, _, _, _, _]) 31 1 rfl (by kernel_rfl) rfl rfl rfl rfl tyi_23 rfl (Nat.le_of_ble_eq_true rfl) rfl rfl rfl (fun _ => AllIn.sub (And.intro m3 (And.intro m4 (And.intro m5 (And.intro m6 (And.intro m7 (trivial))))))) ?_
  refine AJ_store (cs' := #[_, _]) (μ' := [_, _, _, _, _, _, _, _]) 32 2 rfl (by kernel_rfl) rfl rfl rfl rfl tyi_23 rfl (Nat.le_of_ble_eq_true rfl) rfl rfl rfl (fun _ => AllIn.sub (And.intro m3 (And.intro m4 (And.intro m5 (And.intro m6 (And.intro m7 (trivial))))))) ?_
  refine AJ_done (by kernel_rfl) ?_
  refine QJ_thenR (by repeat with_reducible first | exact no_round | exact no_begin | apply no_then | apply no_block) ?_
  refine RJ_regM mix (by kernel_rfl) (fun _ _ _ _ _ h => h) (by kernel_rfl) [[], [], [], [], [], [], [6], []] ?_
  refine BJ_l 0 6 rfl (by kernel_rfl) (by kernel_rfl) (by kernel_rfl) rfl (by kernel_rfl) m6 rfl rfl (YJ_loadN (vs := [_, _]) rfl tyi_100 m0 rfl rfl) ?_
  refine BJ_l 1 0 rfl (by kernel_rfl) (by kernel_rfl) (by kernel_rfl) rfl (by kernel_rfl) m0 rfl rfl (YJ_loadN (vs := [_, _]) rfl tyi_23 m0 rfl rfl) ?_
  refine BJ_l 2 1 rfl (by kernel_rfl) (by kernel_rfl) (by kernel_rfl) rfl (by kernel_rfl) m1 rfl rfl (YJ_loadN (vs := [_, _]) rfl tyi_23 m0 rfl rfl) ?_
  refine BJ_l 3 2 rfl (by kernel_rfl) (by kernel_rfl) (by kernel_rfl) rfl (by kernel_rfl) m2 rfl rfl (YJ_loadN (vs := [_, _]) rfl tyi_23 m0 rfl rfl) ?_
  refine BJ_callX 4 rfl (by kernel_rfl) rfl rfl rfl rfl rfl (And.intro (.inr m0) (And.intro (.inr m1) (And.intro (.inr m2) (And.intro (.inr m3) (And.intro (.inr m4) (And.intro (.inr m5) (And.intro (.inr m6) (And.intro (.inr m7) (trivial))))))))) (area2_c (hP (t.v0).toNat (by omega)) (hP (t.v1).toNat (by omega)) (hP (t.v2).toNat (by omega))) (AllIn.sub (by first | exact trivial | exact And.intro (by repeat first | exact .head _ | apply List.Mem.tail) trivial | exact And.intro (by repeat first | exact .head _ | apply List.Mem.tail) (And.intro (by repeat first | exact .head _ | apply List.Mem.tail) trivial))) ?_
  rintro ⟨A53, k53⟩ hcap53
  dsimp only at hcap53
  dsimp only [List.cons_append, List.nil_append]
  refine BJ_callX 5 rfl (by kernel_rfl) rfl rfl rfl rfl rfl (And.intro (.inr m0) (And.intro (.inr m1) (And.intro (.inr m2) (And.intro (.inr m3) (And.intro (.inr m4) (And.intro (.inr m5) (And.intro (.inr m6) (And.intro (.inr m7) (trivial))))))))) (nadd_c (a := s0) (b := A2p pts t.v0 t.v1 t.v2) (by exact Nat.le_trans (dl_sum (n := pre.length) hs1 (by omega)) (by decide)) (by exact Nat.le_trans (dl_sum (n := 1) (by omega) (by omega)) (by decide)) hs2 hcap53) (AllIn.sub (And.intro m1 (And.intro m0 trivial))) ?_
  rintro ⟨A54, k54⟩ hcap54
  dsimp only at hcap54
  dsimp only [List.cons_append, List.nil_append]
  refine BJ_store (cs' := #[_, _]) (μ' := [_, _, _, _, _, _, _, _]) 6 6 rfl (by kernel_rfl) rfl rfl rfl rfl tyi_100 rfl (Nat.le_of_ble_eq_true rfl) rfl rfl rfl (And.intro (.inr m0) (And.intro (.inr m1) (And.intro (.inr m2) (And.intro (.inr m3) (And.intro (.inr m4) (And.intro (.inr m5) (And.intro (.inl rfl) (And.intro (.inr m7) (trivial))))))))) ?_
  refine BJ_done (by kernel_rfl) ?_
  refine QJ_in_normal ?_
  refine QJ_again (μ1 := [_, _, _]) (μ2 := [_, _, _, _]) (φ1 := [numF (s0 + A2p pts t.v0 t.v1 t.v2) A54]) (permI [3, 4, 4, 4] rfl) (AllIn.sub (And.intro m0 trivial)) ?_
  exact .inl ⟨rfl, (s0 + A2p pts t.v0 t.v1 t.v2, A54, k54), ⟨by dsimp only; rw [sumA_app, ← hs0], by dsimp only; rw [List.length_append, List.length_singleton]; omega, hcap54⟩, rfl, rfl⟩
 ·intro D0 iR hI
  obtain ⟨s9, A9, c9⟩ := iR
  obtain ⟨hs0, hs1, hs2⟩ := hI
  dsimp only at hs0 hs1 hs2
  show QJ _ _ _ _ (defR D0 :: cellsR b2 #[.bool (decide (s9 < 0)), .slice A9 (dl s9) c9] 100 :: _ :: _) _
  refine QJ_in_normal ?_
  refine QJ_then ?_
  refine CJ_seq ?_
  refine CJ_reg ?_
  refine LJ_y rfl rfl (YJ_loadL rfl tyi_28 m2 rfl) ?_
  refine LJ_callX rfl rfl rfl rfl rfl (hull_c (h := h) (pts := pts) (tris := tris) hlen) (fun r h => .tail _ (.tail _ (.tail _ (.tail _ h)))) ?_
  rintro ⟨Ah, ch, lh⟩ hlh
  dsimp only at hlh
  rw [hl9] at hlh
  replace hlh := hlh.symm
  subst hlh
  dsimp only [List.cons_append, List.nil_append]
  refine LJ_y rfl rfl (YJ_assign rfl) ?_
  refine LJ_nil ?_
  refine QJ_then ?_
  refine CJ_seq ?_
  refine CJ_seq ?_
  refine CJ_reg ?_
  refine LJ_y rfl rfl (YJ_move rfl) ?_
  refine LJ_y rfl rfl (YJ_len rfl ulen_55 rfl) ?_
  refine LJ_y rfl rfl (YJ_move rfl) ?_
  refine LJ_nil ?_
  refine QJ_then ?_
  refine CJ_block ?_
  refine CJ_loopF (F := fun (i : Nat × Int × Option Addr × Nat) => ⟨[(1, .pointer (some ⟨b1, 0, none⟩)), (3, .pointer (some ⟨b2, 0, none⟩)), (4, .pointer (some ⟨b3, 0, none⟩)), (10, .slice Ah l9.length ch), (57, .slice Ah l9.length ch), (58, .int .i64 l9.length), (59, .int .i64 (i.1 : Nat))], [cellsR b3 #[.bool (decide (i.2.1 < 0)), .slice i.2.2.1 (dl i.2.1) i.2.2.2] 100], [numF i.2.1 i.2.2.1]⟩) (I := fun (i : Nat × Int × Option Addr × Nat) => i.1 ≤ l9.length ∧ i.2.1 = outA pts l9 i.1 ∧ i.2.1.natAbs ≤ i.1 * 170141183460469231731687303715884105728 ∧ dl i.2.1 ≤ i.2.2.2) (m := fun (i : Nat × Int × Option Addr × Nat) => l9.length - i.1) (0, 0, A17, k17) (μr := [_, _, _]) ⟨Nat.zero_le _, rfl, by simp, hcap17⟩ (And.intro rfl (And.intro rfl (And.intro rfl (And.intro rfl (And.intro rfl (And.intro rfl (And.intro rfl (trivial)))))))) (permI [3] rfl) (AllIn.sub (And.intro m3 trivial)) ?_
  rintro ⟨k, o, A4, c4⟩ ⟨hk, ho0, ho1, ho2⟩
  try dsimp only at hk
  try dsimp only at ho0
  try dsimp only at ho1
  try dsimp only at ho2
  show CJ _ _ _ [(1, .pointer (some ⟨b1, 0, none⟩)), (3, .pointer (some ⟨b2, 0, none⟩)), (4, .pointer (some ⟨b3, 0, none⟩)), (10, .slice Ah l9.length ch), (57, .slice Ah l9.length ch), (58, .int .i64 l9.length), (59, .int .i64 (k : Nat))] (cellsR b3 #[.bool (decide (o < 0)), .slice A4 (dl o) c4] 100 :: _ :: _ :: _ :: _) ([numF o A4] ++ _)
  refine CJ_seq ?_
  refine CJ_reg ?_
  refine LJ_y rfl rfl (YJ_bin rfl rfl rfl) ?_
  refine LJ_nil ?_
  refine QJ_then ?_
  refine CJ_seq ?_
  refine CJ_cond rfl (fun h60 => ?_) (fun h60 => ?_)
  ·simp only [decide_eq_true_eq] at h60
   have hn0 : 0 < l9.length := by omega
   have hmod := Nat.mod_lt (k + 1) hn0
   obtain ⟨a, ha⟩ := get_at h60
   obtain ⟨b, hb⟩ : ∃ b, l9[(k + 1) % l9.length]? = some b := ⟨_, List.getElem?_eq_getElem hmod⟩
   obtain ⟨z, hz⟩ : ∃ z, l9[0]? = some z := ⟨_, List.getElem?_eq_getElem hn0⟩
   obtain ⟨ha1, ha2⟩ := hlv a (List.mem_of_getElem? ha)
   obtain ⟨hb1, hb2⟩ := hlv b (List.mem_of_getElem? hb)
   obtain ⟨hz1, hz2⟩ := hlv z (List.mem_of_getElem? hz)
   have hab : (A2p pts z a b).natAbs ≤ 170141183460469231731687303715884105728 := A2_abs (hP (z).toNat (by omega)) (hP (a).toNat (by omega)) (hP (b).toNat (by omega))
   refine CJ_skip ?_
   refine QJ_then ?_
   refine CJ_seq ?_
   refine CJ_block ?_
   refine CJ_seq ?_
   refine CJ_reg ?_
   refine LJ_y rfl rfl (YJ_move rfl) ?_
   refine LJ_y rfl rfl (YJ_ixFact (n' := l9.length) rfl rfl elt_55 m1 (by decide) (by omega) (by omega) (by omega)) ?_
   refine LJ_y rfl rfl (YJ_loadFactP (A := Ah) (j := k) rfl (congrArg _ (by omega)) tyi_3 m1 (Iv_at ha)) ?_
   refine LJ_y rfl rfl (YJ_assign rfl) ?_
   refine LJ_y rfl rfl (YJ_assign rfl) ?_
   refine LJ_nil ?_
   refine QJ_then ?_
   refine CJ_seq ?_
   refine CJ_reg ?_
   refine LJ_y rfl rfl (YJ_move rfl) ?_
   refine LJ_y rfl rfl (YJ_move rfl) ?_
   refine LJ_y rfl rfl (YJ_bin rfl rfl (iop_add (by omega))) ?_
   refine LJ_y rfl rfl (YJ_move rfl) ?_
   refine LJ_y rfl rfl (YJ_len rfl ulen_55 rfl) ?_
   refine LJ_y rfl rfl (YJ_rem rfl rfl (by first | decide | omega)) ?_
   refine LJ_val (v := .int .i64 (((k + 1) % l9.length : Nat) : Int)) (congrArg (Value.int .i64) (tmn (by omega))) ?_
   refine LJ_y rfl rfl (YJ_ixFact (n' := l9.length) rfl rfl elt_55 m1 (by decide) (by omega) (by omega) (by omega)) ?_
   refine LJ_y rfl rfl (YJ_loadFactP (A := Ah) (j := ((k + 1) % l9.length)) rfl (congrArg _ (by omega)) tyi_3 m1 (Iv_at hb)) ?_
   refine LJ_y rfl rfl (YJ_assign rfl) ?_
   refine LJ_nil ?_
   refine QJ_then ?_
   refine CJ_seq ?_
   refine CJ_seq ?_
   refine CJ_reg ?_
   refine LJ_y rfl rfl (YJ_move rfl) ?_
   refine LJ_y rfl rfl (YJ_len rfl ulen_55 rfl) ?_
   refine LJ_y rfl rfl (YJ_move rfl) ?_
   refine LJ_nil ?_
   refine QJ_then ?_
   refine CJ_block ?_
   refine CJ_loopF (F := fun (i : Nat) => ⟨[(1, .pointer (some ⟨b1, 0, none⟩)), (3, .pointer (some ⟨b2, 0, none⟩)), (4, .pointer (some ⟨b3, 0, none⟩)), (10, .slice Ah l9.length ch), (57, .slice Ah l9.length ch), (58, .int .i64 l9.length), (59, .int .i64 (k : Nat)), (11, .int .i64 (k : Nat)), (12, .int .i64 a), (13, .int .i64 b), (72, .slice Ah l9.length ch), (73, .int .i64 l9.length), (74, .int .i64 (i : Nat))], [], []⟩) (I := fun (i : Nat) => i ≤ l9.length) (m := fun (i : Nat) => l9.length - i) 0 (μr := [_, _, _, _]) (Nat.zero_le _) (And.intro rfl (And.intro rfl (And.intro rfl (And.intro rfl (And.intro rfl (And.intro rfl (And.intro rfl (And.intro rfl (And.intro rfl (And.intro rfl (And.intro rfl (And.intro rfl (And.intro rfl (trivial)))))))))))))) (permI [] rfl) (fun _ h => nomatch h) ?_
   rintro j hj
   try dsimp only at hj
   show CJ _ _ _ [(1, .pointer (some ⟨b1, 0, none⟩)), (3, .pointer (some ⟨b2, 0, none⟩)), (4, .pointer (some ⟨b3, 0, none⟩)), (10, .slice Ah l9.length ch), (57, .slice Ah l9.length ch), (58, .int .i64 l9.length), (59, .int .i64 (k : Nat)), (11, .int .i64 (k : Nat)), (12, .int .i64 a), (13, .int .i64 b), (72, .slice Ah l9.length ch), (73, .int .i64 l9.length), (74, .int .i64 (j : Nat))] (_ :: _ :: _ :: _ :: _) _
   refine CJ_seq ?_
   refine CJ_reg ?_
   refine LJ_y rfl rfl (YJ_bin rfl rfl rfl) ?_
   refine LJ_nil ?_
   refine QJ_then ?_
   refine CJ_seq ?_
   refine CJ_cond rfl (fun h75 => ?_) (fun h75 => ?_)
   ·simp only [decide_eq_true_eq] at h75
    obtain ⟨c, hc⟩ := get_at h75
    obtain ⟨hc1, hc2⟩ := hlv c (List.mem_of_getElem? hc)
    have hcv9 := hcv k a b c ha hb (List.mem_of_getElem? hc)
    refine CJ_skip ?_
    refine QJ_then ?_
    refine CJ_seq ?_
    refine CJ_block ?_
    refine CJ_seq ?_
    refine CJ_reg ?_
    refine LJ_y rfl rfl (YJ_ixFact (n' := l9.length) rfl rfl elt_55 m1 (by decide) (by omega) (by omega) (by omega)) ?_
    refine LJ_y rfl rfl (YJ_loadFactP (A := Ah) (j := j) rfl (congrArg _ (by omega)) tyi_3 m1 (Iv_at hc)) ?_
    refine LJ_y rfl rfl (YJ_assign rfl) ?_
    refine LJ_nil ?_
    refine QJ_then ?_
    refine CJ_seq ?_
    refine CJ_regD mix (by kernel_rfl) (fun _ _ _ _ _ h => h) _ _ (fun _ h => h) (fun _ h => h) ?_
    refine AJ_y 0 rfl (by kernel_rfl) (by kernel_rfl) rfl rfl (YJ_loadL rfl tyi_28 m3 rfl) ?_
    refine AJ_y 1 rfl (by kernel_rfl) (by kernel_rfl) rfl rfl (YJ_nilCheck rfl) ?_
    refine AJ_y 2 rfl (by kernel_rfl) (by kernel_rfl) rfl rfl (YJ_fieldOwn rfl fld_57_0 rfl) ?_
    refine AJ_y 3 rfl (by kernel_rfl) (by kernel_rfl) rfl rfl (YJ_loadFactP (A := some ⟨B, 0, none⟩) (j := 0) rfl rfl tyi_26 m6 rfl) ?_
    refine AJ_y 4 rfl (by kernel_rfl) (by kernel_rfl) rfl rfl (YJ_move rfl) ?_
    refine AJ_y 5 rfl (by kernel_rfl) (by kernel_rfl) rfl rfl (YJ_ixFact rfl rfl elt_26 m7 (by decide) (by omega) (by omega) (by omega)) ?_
    refine AJ_y 6 rfl (by kernel_rfl) (by kernel_rfl) rfl rfl (YJ_loadFactN (vs := [_, _]) (xs := ptCells pts) rfl tyi_23 m7 (ptCells_get (i := (a).toNat) (by omega)) rfl) ?_
    refine AJ_y 7 rfl (by kernel_rfl) (by kernel_rfl) rfl rfl (YJ_loadL rfl tyi_28 m3 rfl) ?_
    refine AJ_y 8 rfl (by kernel_rfl) (by kernel_rfl) rfl rfl (YJ_nilCheck rfl) ?_
    refine AJ_y 9 rfl (by kernel_rfl) (by kernel_rfl) rfl rfl (YJ_fieldOwn rfl fld_57_0 rfl) ?_
    refine AJ_y 10 rfl (by kernel_rfl) (by kernel_rfl) rfl rfl (YJ_loadFactP (A := some ⟨B, 0, none⟩) (j := 0) rfl rfl tyi_26 m6 rfl) ?_
    refine AJ_y 11 rfl (by kernel_rfl) (by kernel_rfl) rfl rfl (YJ_move rfl) ?_
    refine AJ_y 12 rfl (by kernel_rfl) (by kernel_rfl) rfl rfl (YJ_ixFact rfl rfl elt_26 m7 (by decide) (by omega) (by omega) (by omega)) ?_
    refine AJ_y 13 rfl (by kernel_rfl) (by kernel_rfl) rfl rfl (YJ_loadFactN (vs := [_, _]) (xs := ptCells pts) rfl tyi_23 m7 (ptCells_get (i := (b).toNat) (by omega)) rfl) ?_
    refine AJ_y 14 rfl (by kernel_rfl) (by kernel_rfl) rfl rfl (YJ_loadL rfl tyi_28 m3 rfl) ?_
    refine AJ_y 15 rfl (by kernel_rfl) (by kernel_rfl) rfl rfl (YJ_nilCheck rfl) ?_
    refine AJ_y 16 rfl (by kernel_rfl) (by kernel_rfl) rfl rfl (YJ_fieldOwn rfl fld_57_0 rfl) ?_
    refine AJ_y 17 rfl (by kernel_rfl) (by kernel_rfl) rfl rfl (YJ_loadFactP (A := some ⟨B, 0, none⟩) (j := 0) rfl rfl tyi_26 m6 rfl) ?_
    refine AJ_y 18 rfl (by kernel_rfl) (by kernel_rfl) rfl rfl (YJ_move rfl) ?_
    refine AJ_y 19 rfl (by kernel_rfl) (by kernel_rfl) rfl rfl (YJ_ixFact rfl rfl elt_26 m7 (by decide) (by omega) (by omega) (by omega)) ?_
    refine AJ_y 20 rfl (by kernel_rfl) (by kernel_rfl) rfl rfl (YJ_loadFactN (vs := [_, _]) (xs := ptCells pts) rfl tyi_23 m7 (ptCells_get (i := (c).toNat) (by omega)) rfl) ?_
    refine AJ_call0 21 rfl (by kernel_rfl) rfl rfl rfl rfl rfl (orient_c (hP (a).toNat (by omega)) (hP (b).toNat (by omega)) (hP (c).toNat (by omega))) (fun _ h => nomatch h) ?_
    refine AJ_y 22 rfl (by kernel_rfl) (by kernel_rfl) rfl rfl (YJ_bin rfl rfl rfl) ?_
    refine AJ_done (by kernel_rfl) ?_
    refine QJ_then ?_
    refine CJ_cond rfl (fun h100 => ?_) (fun h100 => ?_)
    ·simp only [decide_eq_true_eq] at h100
     have q9 : sgn (A2p pts a b c) < 0 := h100
     exact absurd hcv9 (by have := sgn_cases (A2p pts a b c); omega)
    ·simp only [decide_eq_false_iff_not] at h100
     refine CJ_skip ?_
     refine QJ_in_normal ?_
     refine QJ_then ?_
     refine CJ_reg ?_
     refine LJ_y rfl rfl (YJ_bin rfl rfl (iop_add (by omega))) ?_
     refine LJ_y rfl rfl (YJ_move rfl) ?_
     refine LJ_nil ?_
     refine QJ_roundF (F := fun (i : Nat) => ⟨[(1, .pointer (some ⟨b1, 0, none⟩)), (3, .pointer (some ⟨b2, 0, none⟩)), (4, .pointer (some ⟨b3, 0, none⟩)), (10, .slice Ah l9.length ch), (57, .slice Ah l9.length ch), (58, .int .i64 l9.length), (59, .int .i64 (k : Nat)), (11, .int .i64 (k : Nat)), (12, .int .i64 a), (13, .int .i64 b), (72, .slice Ah l9.length ch), (73, .int .i64 l9.length), (74, .int .i64 (i : Nat))], [], []⟩) (I := fun (i : Nat) => i ≤ l9.length) (m := fun (i : Nat) => l9.length - i) (i := j) (j + 1) (μd := []) (by omega) (by omega) (And.intro rfl (And.intro rfl (And.intro rfl (And.intro rfl (And.intro rfl (And.intro rfl (And.intro rfl (And.intro rfl (And.intro rfl (And.intro rfl (And.intro rfl (And.intro rfl (And.intro rfl (trivial)))))))))))))) (permI [] rfl) (fun _ h => nomatch h) (fun _ h => h)
   ·simp only [decide_eq_false_iff_not] at h75
    refine CJ_exit ?_
    refine QJ_then_exit ?_
    refine QJ_then_exit ?_
    refine QJ_in_exit ?_
    refine QJ_then ?_
    refine CJ_regM mix (by kernel_rfl) (fun _ _ _ _ _ h => h) [[26], [], [], []] ?_
    refine BJ_l 0 0 rfl (by kernel_rfl) (by kernel_rfl) (by kernel_rfl) rfl (by kernel_rfl) m0 rfl rfl (YJ_loadN (vs := [_, _]) rfl tyi_100 m0 rfl rfl) ?_
    refine BJ_l 1 3 rfl (by kernel_rfl) (by kernel_rfl) (by kernel_rfl) rfl (by kernel_rfl) m3 rfl rfl (YJ_loadL rfl tyi_28 m0 rfl) ?_
    refine BJ_y 2 rfl (by kernel_rfl) (by kernel_rfl) (by kernel_rfl) rfl rfl (YJ_nilCheck rfl) ?_
    refine BJ_y 3 rfl (by kernel_rfl) (by kernel_rfl) (by kernel_rfl) rfl rfl (YJ_fieldOwn rfl fld_57_0 rfl) ?_
    refine BJ_y 4 rfl (by kernel_rfl) (by kernel_rfl) (by kernel_rfl) rfl rfl (YJ_loadFactP (A := some ⟨B, 0, none⟩) (j := 0) rfl rfl tyi_26 m6 rfl) ?_
    refine BJ_y 5 rfl (by kernel_rfl) (by kernel_rfl) (by kernel_rfl) rfl rfl (YJ_move rfl) ?_
    refine BJ_y 6 rfl (by kernel_rfl) (by kernel_rfl) (by kernel_rfl) rfl rfl (YJ_ixFact (n' := l9.length) rfl rfl elt_55 m1 (by decide) (by omega) (by omega) (by omega)) ?_
    refine BJ_y 7 rfl (by kernel_rfl) (by kernel_rfl) (by kernel_rfl) rfl rfl (YJ_loadFactP (A := Ah) (j := 0) rfl (congrArg _ (by omega)) tyi_3 m1 (Iv_at hz)) ?_
    refine BJ_y 8 rfl (by kernel_rfl) (by kernel_rfl) (by kernel_rfl) rfl rfl (YJ_ixFact rfl rfl elt_26 m7 (by decide) (by omega) (by omega) (by omega)) ?_
    refine BJ_y 9 rfl (by kernel_rfl) (by kernel_rfl) (by kernel_rfl) rfl rfl (YJ_loadFactN (vs := [_, _]) (xs := ptCells pts) rfl tyi_23 m7 (ptCells_get (i := (z).toNat) (by omega)) rfl) ?_
    refine BJ_l 10 3 rfl (by kernel_rfl) (by kernel_rfl) (by kernel_rfl) rfl (by kernel_rfl) m3 rfl rfl (YJ_loadL rfl tyi_28 m0 rfl) ?_
    refine BJ_y 11 rfl (by kernel_rfl) (by kernel_rfl) (by kernel_rfl) rfl rfl (YJ_nilCheck rfl) ?_
    refine BJ_y 12 rfl (by kernel_rfl) (by kernel_rfl) (by kernel_rfl) rfl rfl (YJ_fieldOwn rfl fld_57_0 rfl) ?_
    refine BJ_y 13 rfl (by kernel_rfl) (by kernel_rfl) (by kernel_rfl) rfl rfl (YJ_loadFactP (A := some ⟨B, 0, none⟩) (j := 0) rfl rfl tyi_26 m6 rfl) ?_
    refine BJ_y 14 rfl (by kernel_rfl) (by kernel_rfl) (by kernel_rfl) rfl rfl (YJ_move rfl) ?_
    refine BJ_y 15 rfl (by kernel_rfl) (by kernel_rfl) (by kernel_rfl) rfl rfl (YJ_ixFact rfl rfl elt_26 m7 (by decide) (by omega) (by omega) (by omega)) ?_
    refine BJ_y 16 rfl (by kernel_rfl) (by kernel_rfl) (by kernel_rfl) rfl rfl (YJ_loadFactN (vs := [_, _]) (xs := ptCells pts) rfl tyi_23 m7 (ptCells_get (i := (a).toNat) (by omega)) rfl) ?_
    refine BJ_l 17 3 rfl (by kernel_rfl) (by kernel_rfl) (by kernel_rfl) rfl (by kernel_rfl) m3 rfl rfl (YJ_loadL rfl tyi_28 m0 rfl) ?_
    refine BJ_y 18 rfl (by kernel_rfl) (by kernel_rfl) (by kernel_rfl) rfl rfl (YJ_nilCheck rfl) ?_
    refine BJ_y 19 rfl (by kernel_rfl) (by kernel_rfl) (by kernel_rfl) rfl rfl (YJ_fieldOwn rfl fld_57_0 rfl) ?_
    refine BJ_y 20 rfl (by kernel_rfl) (by kernel_rfl) (by kernel_rfl) rfl rfl (YJ_loadFactP (A := some ⟨B, 0, none⟩) (j := 0) rfl rfl tyi_26 m6 rfl) ?_
    refine BJ_y 21 rfl (by kernel_rfl) (by kernel_rfl) (by kernel_rfl) rfl rfl (YJ_move rfl) ?_
    refine BJ_y 22 rfl (by kernel_rfl) (by kernel_rfl) (by kernel_rfl) rfl rfl (YJ_ixFact rfl rfl elt_26 m7 (by decide) (by omega) (by omega) (by omega)) ?_
    refine BJ_y 23 rfl (by kernel_rfl) (by kernel_rfl) (by kernel_rfl) rfl rfl (YJ_loadFactN (vs := [_, _]) (xs := ptCells pts) rfl tyi_23 m7 (ptCells_get (i := (b).toNat) (by omega)) rfl) ?_
    refine BJ_callX 24 rfl (by kernel_rfl) rfl rfl rfl rfl rfl (And.intro (.inr m0) (And.intro (.inr m1) (And.intro (.inr m2) (And.intro (.inr m3) (trivial))))) (area2_c (hP (z).toNat (by omega)) (hP (a).toNat (by omega)) (hP (b).toNat (by omega))) (AllIn.sub (by first | exact trivial | exact And.intro (by repeat first | exact .head _ | apply List.Mem.tail) trivial | exact And.intro (by repeat first | exact .head _ | apply List.Mem.tail) (And.intro (by repeat first | exact .head _ | apply List.Mem.tail) trivial))) ?_
    rintro ⟨A126, k126⟩ hcap126
    dsimp only at hcap126
    dsimp only [List.cons_append, List.nil_append]
    refine BJ_callX 25 rfl (by kernel_rfl) rfl rfl rfl rfl rfl (And.intro (.inr m0) (And.intro (.inr m1) (And.intro (.inr m2) (And.intro (.inr m3) (trivial))))) (nadd_c (a := o) (b := A2p pts z a b) (by exact Nat.le_trans (dl_sum (n := k) ho1 (by omega)) (by decide)) (by exact Nat.le_trans (dl_sum (n := 1) (by omega) (by omega)) (by decide)) ho2 hcap126) (AllIn.sub (And.intro m1 (And.intro m0 trivial))) ?_
    rintro ⟨A127, k127⟩ hcap127
    dsimp only at hcap127
    dsimp only [List.cons_append, List.nil_append]
    refine BJ_store (cs' := #[_, _]) (μ' := [_, _, _, _]) 26 0 rfl (by kernel_rfl) rfl rfl rfl rfl tyi_100 rfl (Nat.le_of_ble_eq_true rfl) rfl rfl rfl (And.intro (.inl rfl) (And.intro (.inr m1) (And.intro (.inr m2) (And.intro (.inr m3) (trivial))))) ?_
    refine BJ_done (by kernel_rfl) ?_
    refine QJ_in_normal ?_
    refine QJ_then ?_
    refine CJ_reg ?_
    refine LJ_y rfl rfl (YJ_bin rfl rfl (iop_add (by omega))) ?_
    refine LJ_y rfl rfl (YJ_move rfl) ?_
    refine LJ_nil ?_
    refine QJ_roundF (F := fun (i : Nat × Int × Option Addr × Nat) => ⟨[(1, .pointer (some ⟨b1, 0, none⟩)), (3, .pointer (some ⟨b2, 0, none⟩)), (4, .pointer (some ⟨b3, 0, none⟩)), (10, .slice Ah l9.length ch), (57, .slice Ah l9.length ch), (58, .int .i64 l9.length), (59, .int .i64 (i.1 : Nat))], [cellsR b3 #[.bool (decide (i.2.1 < 0)), .slice i.2.2.1 (dl i.2.1) i.2.2.2] 100], [numF i.2.1 i.2.2.1]⟩) (I := fun (i : Nat × Int × Option Addr × Nat) => i.1 ≤ l9.length ∧ i.2.1 = outA pts l9 i.1 ∧ i.2.1.natAbs ≤ i.1 * 170141183460469231731687303715884105728 ∧ dl i.2.1 ≤ i.2.2.2) (m := fun (i : Nat × Int × Option Addr × Nat) => l9.length - i.1) (i := (k, o, A4, c4)) ((k + 1, o + A2p pts z a b, A127, k127)) (μd := []) ⟨by omega, by dsimp only; rw [outA_succ, ← ho0]; unfold outT; rw [getD_of hz, getD_of ha, getD_of hb], by dsimp only; omega, hcap127⟩ (by dsimp only; omega) (And.intro rfl (And.intro rfl (And.intro rfl (And.intro rfl (And.intro rfl (And.intro rfl (And.intro rfl (trivial)))))))) (permI [] rfl) (AllIn.sub (And.intro m0 trivial)) (fun _ h => .tail _ (.tail _ (.tail _ h)))
  ·simp only [decide_eq_false_iff_not] at h60
   have hk9 : l9.length = k := by omega
   subst hk9
   refine CJ_exit ?_
   refine QJ_then_exit ?_
   refine QJ_then_exit ?_
   refine QJ_in_exit ?_
   refine QJ_then ?_
   refine CJ_seq ?_
   refine CJ_reg ?_
   refine LJ_y rfl rfl (YJ_loadN (vs := [_, _]) rfl tyi_100 m2 rfl rfl) ?_
   refine LJ_y rfl rfl (YJ_loadN (vs := [_, _]) rfl tyi_100 m0 rfl rfl) ?_
   refine LJ_call0 rfl rfl rfl rfl rfl (ncmp_c (a := s9) (b := o) (by exact Nat.le_trans (dl_sum (n := (reals tris).length) hs1 (by omega)) (by decide)) (by exact Nat.le_trans (dl_sum (n := l9.length) ho1 (by omega)) (by decide)) hs2 ho2) (AllIn.sub (And.intro m2 (And.intro m0 trivial))) ?_
   refine LJ_y rfl rfl (YJ_bin rfl rfl rfl) ?_
   refine LJ_y rfl rfl (YJ_assign rfl) ?_
   refine LJ_nil ?_
   refine QJ_then ?_
   refine CJ_ret ?_
   refine QJ_finM (.inl rfl) [D0] rfl (μ' := []) (μr := [_, _, _]) (φ' := []) (res_tmp rfl rfl) (permI [1] rfl) (fun _ h => nomatch h) ?_
   exact ⟨congrArg Value.bool (decide_eq_true (by rw [hs0, ho0, hsum, Int.sub_self]; rfl)), rfl, rfl⟩
 ·exact fun _ _ _ _ _ h => h.elim
end Go.Proofs.Ytbanlhlggkdanaa
namespace Go.Proofs.Ytbanlhlggkdanaa
open Go.RowKit
theorem umap_119 : Try.prog.underlying 119 = some (.map 122 3) := by kernel_rfl
theorem ent_31 : Enter Try.prog 31 = true := by kernel_rfl
theorem zer_122 : zer Try.prog 122 = some (.agg #[.int .i64 0, .int .i64 0]) := by kernel_rfl
theorem lay_122 : lay1 Try.prog 122 = some [.int .i64 0, .int .i64 0] := by kernel_rfl
theorem tyi_122 : tyi Try.prog 122 = some (true, 2) := by kernel_rfl
theorem check_str2 {P : Program} (w : World) {t e : TypeId} {f1 f2 : Field} {q : IntKind} (hu : P.underlying t = some (.struct #[f1, f2])) (h1 : f1.type = e ∧ f1.offset = 0) (h2 : f2.type = e ∧ f2.offset = 1) (he : tyi P e = some (false, 1)) (hk : P.underlying e = some (.int q)) (em : Bool) (a b : Int) :
  (Instr.checkKey em 10000 t (.agg #[.int .i64 a, .int .i64 b])).run P w = .ok () w := by
 rw [show (10000 : Nat) = 9998 + 1 + 1 from rfl]
 generalize 9998 = n
 have p0 : (part e #[Value.int .i64 a, Value.int .i64 b] 0).run P w = .ok (.int .i64 a) w := run_part1 he rfl w
 have p1 : (part e #[Value.int .i64 a, Value.int .i64 b] 1).run P w = .ok (.int .i64 b) w := run_part1 he rfl w
 have c0 : ∀ x : Int, (Instr.checkKey em (n + 1) e (.int .i64 x)).run P w = .ok () w := fun x => by simp [Instr.checkKey, run_underlying hk]
 rw [Instr.checkKey]
 simp only [Sem.run_bind, run_underlying hu, Result.andThen_ok]
 by_cases g1 : f1.name = "_" <;> by_cases g2 : f2.name = "_" <;> simp [h1.1, h1.2, h2.1, h2.2, p0, p1, c0, g1, g2]
theorem way_fields : ∃ f1 f2 : Field, Try.prog.underlying 122 = some (.struct #[f1, f2]) ∧ (f1.type = 3 ∧ f1.offset = 0) ∧ (f2.type = 3 ∧ f2.offset = 1) := by
 have hf : Try.prog.underlying 122 = some (.struct (Try.prog.fieldsOf 122)) := by kernel_rfl
 have hs : (Try.prog.fieldsOf 122).toList.map (fun f => (f.type, f.offset)) = [(3, 0), (3, 1)] := by kernel_rfl
 rcases hl : (Try.prog.fieldsOf 122).toList with _ | ⟨f1, _ | ⟨f2, _ | ⟨f3, r⟩⟩⟩
 ·rw [hl] at hs; simp at hs
 ·rw [hl] at hs; simp at hs
 ·rw [hl] at hs
  simp only [List.map_cons, List.map_nil, List.cons.injEq, Prod.mk.injEq, and_true] at hs
  have e : Try.prog.fieldsOf 122 = #[f1, f2] := Array.toList_inj.1 (hl.trans rfl)
  exact ⟨f1, f2, hf.trans (congrArg (fun x => some (TypeDesc.struct x)) e), hs.1, hs.2⟩
 ·rw [hl] at hs; simp at hs
theorem eqs_way (a b c d : Int) (w : World) : (Op.equal 122 (.agg #[.int .i64 a, .int .i64 b]) (.agg #[.int .i64 c, .int .i64 d])).run Try.prog w = .ok (decide (a = c) && decide (b = d)) w := by
 have hf : Try.prog.underlying 122 = some (.struct (Try.prog.fieldsOf 122)) := by kernel_rfl
 unfold Op.equal
 rw [show Op.maxDepth = 9999 + 1 from rfl, run_equalIn_agg w 9999 122 _ _ hf (by kernel_rfl)]
 simp [go_sem]
 by_cases h1 : a = c <;> by_cases h2 : b = d <;> simp [h1, h2]
theorem keyWay : KeyT Try.prog 122 fK := by
 obtain ⟨f1, f2, hu, h1, h2⟩ := way_fields
 exact keyTwo (by kernel_rfl) (fun em a b w => check_str2 (q := .i64) w hu h1 h2 (by kernel_rfl) (by kernel_rfl) em a b) eqs_way
abbrev MW := List ((Int × Int) × Int × Nat)
def edT (t : Tr) (k : Nat) : Int × Int := (t.v ((k + 1) % 3), t.v ((k + 2) % 3))
def edTs (t : Tr) : List (Int × Int) := [edT t 0, edT t 1, edT t 2]
def liveE (l : List Tr) : List (Int × Int) := l.flatMap fun t => if t.v0 = -2 then [] else edTs t
def okT (pts : List (Int × Int)) (tris : List Tr) (t : Tr) (n : Nat) : Bool := madeB pts t && (decide (t.v0 = -2) || besB tris t (n : Nat))
def sndP (pts : List (Int × Int)) (tris : List Tr) : Prop := (liveE tris).Nodup ∧ ∀ (n : Nat) (t : Tr), tris[n]? = some t → okT pts tris t n = true
theorem liveE_take {l : List Tr} {n : Nat} {t : Tr} (h : l[n]? = some t) : liveE (l.take (n + 1)) = liveE (l.take n) ++ (if t.v0 = -2 then [] else edTs t) := by
 rw [List.take_add_one, h]
 unfold liveE
 rw [List.flatMap_append]
 simp
theorem liveE_dup {l : List Tr} {n k : Nat} {t : Tr} (h : l[n]? = some t) (hk : k < 3) (hl : t.v0 ≠ -2) (hm : edT t k ∈ liveE (l.take n) ++ (edTs t).take k) : ¬ (liveE l).Nodup := by
 intro hn
 have e : liveE l = liveE (l.take (n + 1)) ++ liveE (l.drop (n + 1)) := by
  unfold liveE
  rw [← List.flatMap_append, List.take_append_drop]
 rw [e, liveE_take h, if_neg hl] at hn
 have h1 := (List.nodup_append.1 hn).1
 have e2 : edTs t = (edTs t).take k ++ (edT t k :: (edTs t).drop (k + 1)) := by
  match k, hk with
  | 0, _ => rfl
  | 1, _ => rfl
  | 2, _ => rfl
 rw [e2, ← List.append_assoc] at h1
 exact (List.nodup_append.1 h1).2.2 _ hm _ (.head _) rfl
theorem edTs_take {t : Tr} {k : Nat} (hk : k < 3) : (edTs t).take (k + 1) = (edTs t).take k ++ [edT t k] := by
 match k, hk with
 | 0, _ => rfl
 | 1, _ => rfl
 | 2, _ => rfl
structure WI (pts : List (Int × Int)) (tris : List Tr) (n : Nat) (es : List (Int × Int)) (L : MW) (c : Nat) : Prop where
 nd : es.Nodup
 ok : ∀ (q : Nat) (t : Tr), q < n → tris[q]? = some t → okT pts tris t q = true
 gt : ∀ w, (mget w L).getD 0 = if w ∈ es then 1 else 0
 bn : (L.map (·.2.2)).Nodup
 bc : ∀ e, e ∈ L → e.2.2 < c
theorem WI.edge {pts : List (Int × Int)} {tris : List Tr} {n : Nat} {es : List (Int × Int)} {L : MW} {c : Nat} {w : Int × Int} (h : WI pts tris n es L c) (hw : ¬ w ∈ es) : WI pts tris n (es ++ [w]) (mput w ((mget w L).getD 0 + 1) L c) (mclk w L c) := by
 have hb := mput_born (k := w) (v := (mget w L).getD 0 + 1) h.bc h.bn
 refine ⟨?_, h.ok, fun x => ?_, hb.1, hb.2⟩
 ·rw [List.nodup_append]
  refine ⟨h.nd, by simp, fun a ha b hb => ?_⟩
  rw [List.mem_singleton] at hb
  subst hb
  exact fun q => hw (q ▸ ha)
 ·rw [mget_mput]
  by_cases q : x = w
  ·subst q
   rw [if_pos rfl, if_pos (List.mem_append_right _ (.head _)), h.gt, if_neg hw]
   rfl
  ·rw [if_neg q, h.gt]
   by_cases p : x ∈ es
   ·rw [if_pos p, if_pos (List.mem_append_left _ p)]
   ·rw [if_neg p, if_neg]
    intro r
    rcases List.mem_append.1 r with r | r
    ·exact p r
    ·rw [List.mem_singleton] at r; exact q r
theorem WI.next {pts : List (Int × Int)} {tris : List Tr} {n : Nat} {es es' : List (Int × Int)} {L : MW} {c : Nat} {t : Tr} (h : WI pts tris n es L c) (ht : tris[n]? = some t) (hok : okT pts tris t n = true) (he : es = es') : WI pts tris (n + 1) es' L c := by
 subst he
 refine ⟨h.nd, fun q u hq hu => ?_, h.gt, h.bn, h.bc⟩
 rcases Nat.lt_succ_iff_lt_or_eq.1 hq with p | p
 ·exact h.ok q u p hu
 ·subst p
  rw [ht] at hu
  cases hu
  exact hok
theorem getment {w : Int × Int} {l : MW} {c : Nat} : ((mget w (ment w (0 : Int) l c)).map gI).getD (.int .i64 0) = .int .i64 ((mget w l).getD 0) := by
 cases h : mget w l with
 | none =>
  have := mget_ment (k := w) (z := (0 : Int)) (l := l) (c := c) h gI
  rw [h] at this
  exact this
 | some v =>
  have e : ment w (0 : Int) l c = l := by
   unfold mget at h
   unfold ment
   cases hf : mfind w l 0 with
   | none => rw [hf] at h; cases h
   | some p => rfl
  rw [e, h]
  rfl
theorem bfalse {b : Bool} {P : Prop} (h : b = true ↔ P) (hn : ¬ P) : false = b := by
 cases b with
 | false => rfl
 | true => exact absurd (h.1 rfl) hn
structure ArOk (pts : List (Int × Int)) (tris : List Tr) : Prop where
 lv : ∀ v, v ∈ hullOf tris (pts.length : Nat) → 0 ≤ v ∧ v < pts.length
 cv : ∀ (i : Nat) (a b c : Int), (hullOf tris (pts.length : Nat))[i]? = some a → (hullOf tris (pts.length : Nat))[(i + 1) % (hullOf tris (pts.length : Nat)).length]? = some b → c ∈ hullOf tris (pts.length : Nat) → 0 ≤ A2p pts a b c
 sum : sumA pts (reals tris) = outA pts (hullOf tris (pts.length : Nat)) (hullOf tris (pts.length : Nat)).length
theorem okTris_of {pts : List (Int × Int)} {tris : List Tr} (h : ∀ t, t ∈ tris → vOk pts.length t) : okTris pts tris := fun t ht hr => by
 obtain ⟨r0, r1, r2⟩ := hr
 have h0 := h t ht 0 (by decide)
 have h1 := h t ht 1 (by decide)
 have h2 := h t ht 2 (by decide)
 have e0 : t.v 0 = t.v0 := rfl
 have e1 : t.v 1 = t.v1 := rfl
 have e2 : t.v 2 = t.v2 := rfl
 rw [e0] at h0; rw [e1] at h1; rw [e2] at h2
 unfold Tr.ok
 omega
set_option maxRecDepth 100000 in
set_option maxHeartbeats 16000000 in
theorem sound_c {B : Nat} {h : Mh} {pts : List (Int × Int)} {tris : List Tr} {ats : List Int} {b : Bool} (hP : ∀ j, j < pts.length → P2 (pts.getD j (0, 0)).1 (pts.getD j (0, 0)).2) (hv : ∀ t, t ∈ tris → vOk pts.length t) (hna : h.na = ats.length) (hlen : tris.length ≤ 1000000) (hal : ats.length ≤ 1000000) (hs : sndP pts tris → StOk tris ats ∧ ArOk pts tris) (hb : b = true ↔ sndP pts tris) : Tri Try.prog 31 [.pointer (some ⟨B, 0, none⟩)] [] (atFs B h pts tris ats) (Ret0 (.bool b)) := by
 refine Tri_of (N := 65) Try.func31 rfl ent_31 rfl rfl ?_
 intro w0 S0 T0
 show CJ _ _ _ [(0, _)] _ _
 refine CJ_seq ?_
 refine CJ_reg ?_
 refine LJ_y rfl rfl (YJ_assign rfl) ?_
 refine LJ_nil ?_
 refine QJ_then ?_
 refine CJ_seq ?_
 refine CJ_reg ?_
 refine LJ_makeMap rfl rfl ?_
 intro wm
 refine LJ_y rfl rfl (YJ_assign rfl) ?_
 refine LJ_nil ?_
 refine QJ_then ?_
 refine CJ_seq ?_
 refine CJ_seq ?_
 refine CJ_reg ?_
 refine LJ_y rfl rfl (YJ_move rfl) ?_
 refine LJ_y rfl rfl (YJ_nilCheck rfl) ?_
 refine LJ_y rfl rfl (YJ_fieldOwn rfl fld_57_1 rfl) ?_
 refine LJ_y rfl rfl (YJ_loadFactP (A := some ⟨B, 0, none⟩) (j := 1) rfl rfl tyi_54 m0 rfl) ?_
 refine LJ_y rfl rfl (YJ_len rfl ulen_54 rfl) ?_
 refine LJ_y rfl rfl (YJ_move rfl) ?_
 refine LJ_nil ?_
 refine QJ_then ?_
 refine CJ_block ?_
 refine CJ_loopF (F := fun (i : Nat × MW × Nat) => ⟨[(0, .pointer (some ⟨B, 0, none⟩)), (3, .map (some wm)), (12, .slice h.T tris.length h.ct), (13, .int .i64 tris.length), (14, .int .i64 (i.1 : Nat))], [mapR wm fK gI i.2.1 i.2.2], []⟩) (I := fun (i : Nat × MW × Nat) => i.1 ≤ tris.length ∧ WI pts tris i.1 (liveE (tris.take i.1)) i.2.1 i.2.2) (m := fun (i : Nat × MW × Nat) => tris.length - i.1) (0, [], 0) (μr := []) ⟨Nat.zero_le _, List.nodup_nil, (fun _ _ h => absurd h (Nat.not_lt_zero _)), (fun _ => rfl), List.nodup_nil, (fun _ h => nomatch h)⟩ (And.intro rfl (And.intro rfl (And.intro rfl (And.intro rfl (And.intro rfl (trivial)))))) (permI [] rfl) (fun _ h => nomatch h) ?_
 rintro ⟨n, L0, c0⟩ ⟨hn, hWI0⟩
 try dsimp only at hn
 try dsimp only at hWI0
 show CJ _ _ _ [(0, .pointer (some ⟨B, 0, none⟩)), (3, .map (some wm)), (12, .slice h.T tris.length h.ct), (13, .int .i64 tris.length), (14, .int .i64 (n : Nat))] (mapR wm fK gI L0 c0 :: _) _
 refine CJ_seq ?_
 refine CJ_reg ?_
 refine LJ_y rfl rfl (YJ_bin rfl rfl rfl) ?_
 refine LJ_nil ?_
 refine QJ_then ?_
 refine CJ_seq ?_
 refine CJ_cond rfl (fun h15 => ?_) (fun h15 => ?_)
 ·simp only [decide_eq_true_eq] at h15
  obtain ⟨t, ht⟩ := get_at h15
  refine CJ_skip ?_
  refine QJ_then ?_
  refine CJ_seq ?_
  refine CJ_block ?_
  refine CJ_seq ?_
  refine CJ_reg ?_
  refine LJ_y rfl rfl (YJ_move rfl) ?_
  refine LJ_y rfl rfl (YJ_ixFact rfl rfl elt_54 m2 (by decide) (by omega) (by omega) (by omega)) ?_
  refine LJ_y rfl rfl (YJ_loadFactN (vs := [.int .i64 t.v0, .int .i64 t.v1, .int .i64 t.v2, .int .i64 t.n0, .int .i64 t.n1, .int .i64 t.n2, .bool t.f0, .bool t.f1, .bool t.f2]) (xs := trCells tris) rfl tyi_37 m2 (trCells_row ht) rfl) ?_
  refine LJ_alloc (cs := #[_, _, _, _, _, _, _, _, _]) rfl rfl zer_37 rfl ?_
  intro b2
  refine LJ_y rfl rfl (YJ_assign rfl) ?_
  refine LJ_store (cs' := #[_, _, _, _, _, _, _, _, _]) (μ' := [_, _]) 0 rfl rfl rfl rfl tyi_37 rfl (Nat.le_of_ble_eq_true rfl) rfl (wr_all rfl) rfl ?_
  refine LJ_nil ?_
  refine QJ_then ?_
  refine CJ_seq ?_
  refine CJ_seq ?_
  refine CJ_reg ?_
  refine LJ_y rfl rfl (YJ_move rfl) ?_
  refine LJ_y rfl rfl (YJ_loadN (vs := [_, _, _, _, _, _, _, _, _]) rfl tyi_37 m0 rfl rfl) ?_
  refine LJ_call0 rfl rfl rfl rfl rfl (made_c (h := h) (tris := tris) hP (hv t (List.mem_of_getElem? ht))) (at_mesh (fun r h => h)) ?_
  refine LJ_y rfl rfl (YJ_not rfl) ?_
  refine LJ_nil ?_
  refine QJ_then ?_
  refine CJ_cond rfl (fun h22 => ?_) (fun h22 => ?_)
  ·simp only [Bool.not_eq_true'] at h22
   refine CJ_seq ?_
   refine CJ_reg ?_
   refine LJ_y rfl rfl (YJ_assign rfl) ?_
   refine LJ_nil ?_
   refine QJ_then ?_
   refine CJ_ret ?_
   refine QJ_then_ret ?_
   refine QJ_in_ret ?_
   refine QJ_then_ret ?_
   refine QJ_then_ret ?_
   refine QJ_in_ret ?_
   refine QJ_then_ret ?_
   refine QJ_fin (.inl rfl) (μ' := []) (μr := _) (φ' := []) (res_tmp rfl rfl) (List.Perm.refl _) (fun _ h => nomatch h) ?_
   exact ⟨congrArg Value.bool (bfalse hb (fun q => by have := q.2 n t ht; unfold okT at this; rw [h22] at this; cases this)), rfl, rfl⟩
  ·simp only [Bool.not_eq_false'] at h22
   refine CJ_skip ?_
   refine QJ_then ?_
   refine CJ_seq ?_
   refine CJ_seq ?_
   refine CJ_reg ?_
   refine LJ_y rfl rfl (YJ_fieldOwn rfl fld_37_0 rfl) ?_
   refine LJ_y rfl rfl (YJ_ixArr rfl rfl arrt_34 (by omega) (by omega) rfl) ?_
   refine LJ_y rfl rfl (YJ_loadL rfl tyi_3 m0 rfl) ?_
   refine LJ_y rfl rfl (YJ_bin rfl rfl rfl) ?_
   refine LJ_nil ?_
   refine QJ_then ?_
   refine CJ_cond rfl (fun h26 => ?_) (fun h26 => ?_)
   ·simp only [decide_eq_true_eq] at h26
    refine CJ_exit ?_
    refine QJ_then_exit ?_
    refine QJ_in_exit ?_
    refine QJ_then ?_
    refine CJ_reg ?_
    refine LJ_y rfl rfl (YJ_bin rfl rfl (iop_add (by omega))) ?_
    refine LJ_y rfl rfl (YJ_move rfl) ?_
    refine LJ_nil ?_
    refine QJ_roundF (F := fun (i : Nat × MW × Nat) => ⟨[(0, .pointer (some ⟨B, 0, none⟩)), (3, .map (some wm)), (12, .slice h.T tris.length h.ct), (13, .int .i64 tris.length), (14, .int .i64 (i.1 : Nat))], [mapR wm fK gI i.2.1 i.2.2], []⟩) (I := fun (i : Nat × MW × Nat) => i.1 ≤ tris.length ∧ WI pts tris i.1 (liveE (tris.take i.1)) i.2.1 i.2.2) (m := fun (i : Nat × MW × Nat) => tris.length - i.1) (i := (n, L0, c0)) ((n + 1, L0, c0)) (μd := [_]) ⟨by omega, hWI0.next ht (by unfold okT; rw [h22, decide_eq_true h26]; rfl) (by rw [liveE_take ht, if_pos h26, List.append_nil])⟩ (by dsimp only; omega) (And.intro rfl (And.intro rfl (And.intro rfl (And.intro rfl (And.intro rfl (trivial)))))) (permI [1] rfl) (fun _ h => nomatch h) (fun _ h => h)
   ·simp only [decide_eq_false_iff_not] at h26
    refine CJ_skip ?_
    refine QJ_then ?_
    refine CJ_seq ?_
    refine CJ_seq ?_
    refine CJ_reg ?_
    refine LJ_y rfl rfl (YJ_move rfl) ?_
    refine LJ_nil ?_
    refine QJ_then ?_
    refine CJ_block ?_
    refine CJ_loopF (F := fun (i : Nat × MW × Nat) => ⟨[(0, .pointer (some ⟨B, 0, none⟩)), (3, .map (some wm)), (12, .slice h.T tris.length h.ct), (13, .int .i64 tris.length), (14, .int .i64 (n : Nat)), (4, .int .i64 (n : Nat)), (5, .pointer (some ⟨b2, 0, none⟩)), (27, .int .i64 (i.1 : Nat))], [mapR wm fK gI i.2.1 i.2.2, cellsR b2 #[.int .i64 t.v0, .int .i64 t.v1, .int .i64 t.v2, .int .i64 t.n0, .int .i64 t.n1, .int .i64 t.n2, .bool t.f0, .bool t.f1, .bool t.f2] 37], []⟩) (I := fun (i : Nat × MW × Nat) => i.1 ≤ 3 ∧ WI pts tris n (liveE (tris.take n) ++ (edTs t).take i.1) i.2.1 i.2.2) (m := fun (i : Nat × MW × Nat) => 3 - i.1) (0, L0, c0) (μr := []) ⟨Nat.zero_le _, by rw [List.take_zero, List.append_nil]; exact hWI0⟩ (And.intro rfl (And.intro rfl (And.intro rfl (And.intro rfl (And.intro rfl (And.intro rfl (And.intro rfl (And.intro rfl (trivial))))))))) (permI [1] rfl) (fun _ h => nomatch h) ?_
    rintro ⟨k, L1, c1⟩ ⟨hk, hWI⟩
    try dsimp only at hk
    try dsimp only at hWI
    show CJ _ _ _ [(0, .pointer (some ⟨B, 0, none⟩)), (3, .map (some wm)), (12, .slice h.T tris.length h.ct), (13, .int .i64 tris.length), (14, .int .i64 (n : Nat)), (4, .int .i64 (n : Nat)), (5, .pointer (some ⟨b2, 0, none⟩)), (27, .int .i64 (k : Nat))] (mapR wm fK gI L1 c1 :: cellsR b2 #[.int .i64 t.v0, .int .i64 t.v1, .int .i64 t.v2, .int .i64 t.n0, .int .i64 t.n1, .int .i64 t.n2, .bool t.f0, .bool t.f1, .bool t.f2] 37 :: _) _
    refine CJ_seq ?_
    refine CJ_reg ?_
    refine LJ_y rfl rfl (YJ_bin rfl rfl rfl) ?_
    refine LJ_nil ?_
    refine QJ_then ?_
    refine CJ_seq ?_
    refine CJ_cond rfl (fun h28 => ?_) (fun h28 => ?_)
    ·simp only [decide_eq_true_eq] at h28
     have hk3 : k < 3 := by omega
     refine CJ_skip ?_
     refine QJ_then ?_
     refine CJ_seq ?_
     refine CJ_block ?_
     refine CJ_seq ?_
     refine CJ_reg ?_
     refine LJ_y rfl rfl (YJ_move rfl) ?_
     refine LJ_y rfl rfl (YJ_assign rfl) ?_
     refine LJ_nil ?_
     refine QJ_then ?_
     refine CJ_seq ?_
     refine CJ_regDA mix (by kernel_rfl) (fun _ _ _ _ _ h => h) _ _ (fun _ h => h) (fun _ h => h) [⟨13, 7, 122, #[.int .i64 0, .int .i64 0]⟩] 14 rfl (And.intro ⟨_, _, _, _, rfl, zer_122, rfl⟩ (trivial)) rfl rfl ?_
     refine AA_y 0 rfl (by kernel_rfl) rfl rfl rfl (YJ_move rfl) ?_
     refine AA_y 1 rfl (by kernel_rfl) rfl rfl rfl (YJ_bin rfl rfl (iop_add (by omega))) ?_
     refine AA_y 2 rfl (by kernel_rfl) rfl rfl rfl (YJ_rem rfl rfl (by first | decide | omega)) ?_
     refine AA_val (v := .int .i64 (((k + 1) % 3 : Nat) : Int)) (congrArg (Value.int .i64) (tm3 (j := 1) hk3 (by decide))) ?_
     refine AA_y 3 rfl (by kernel_rfl) rfl rfl rfl (YJ_fieldOwn rfl fld_37_0 rfl) ?_
     refine AA_y 4 rfl (by kernel_rfl) rfl rfl rfl (YJ_ixArr rfl rfl arrt_34 (by omega) (by omega) rfl) ?_
     refine AA_y 5 rfl (by kernel_rfl) rfl rfl rfl (YJ_load1 rfl tyi_3 m1 (v_get (t := t) (Nat.mod_lt (k + 1) (by decide)))) ?_
     refine AA_y 6 rfl (by kernel_rfl) rfl rfl rfl (YJ_move rfl) ?_
     refine AA_y 7 rfl (by kernel_rfl) rfl rfl rfl (YJ_bin rfl rfl (iop_add (by omega))) ?_
     refine AA_y 8 rfl (by kernel_rfl) rfl rfl rfl (YJ_rem rfl rfl (by first | decide | omega)) ?_
     refine AA_val (v := .int .i64 (((k + 2) % 3 : Nat) : Int)) (congrArg (Value.int .i64) (tm3 (j := 2) hk3 (by decide))) ?_
     refine AA_y 9 rfl (by kernel_rfl) rfl rfl rfl (YJ_fieldOwn rfl fld_37_0 rfl) ?_
     refine AA_y 10 rfl (by kernel_rfl) rfl rfl rfl (YJ_ixArr rfl rfl arrt_34 (by omega) (by omega) rfl) ?_
     refine AA_y 11 rfl (by kernel_rfl) rfl rfl rfl (YJ_load1 rfl tyi_3 m1 (v_get (t := t) (Nat.mod_lt (k + 2) (by decide)))) ?_
     refine AA_y 12 rfl (by kernel_rfl) rfl rfl rfl (YJ_build1 (cs := [_, _]) lay_122 rfl rfl rfl) ?_
     refine AA_end (by kernel_rfl) rfl ?_
     intro bs hbs
     obtain ⟨b3, rfl⟩ := len_1 hbs
     clear hbs
     show AJ _ _ _ _ _ _ _ ((7, .pointer (some ⟨b3, 0, none⟩)) :: _) (cellsR b3 _ _ :: _) _
     refine AJ_store (cs' := #[_, _]) (μ' := [_, _, _]) 14 0 rfl (by kernel_rfl) rfl rfl rfl rfl tyi_122 rfl (Nat.le_of_ble_eq_true rfl) rfl rfl rfl (fun _ => AllIn.sub (And.intro m1 (And.intro m2 (trivial)))) ?_
     refine AJ_done (by kernel_rfl) ?_
     refine QJ_then ?_
     refine CJ_seq ?_
     refine CJ_regD mix (by kernel_rfl) (fun _ _ _ _ _ h => h) (selR [0, 2] _) _ (selR_sub _ _) (fun _ h => h) ?_
     refine AJ_y 0 rfl (by kernel_rfl) (by kernel_rfl) rfl rfl (YJ_move rfl) ?_
     refine AJ_y 1 rfl (by kernel_rfl) (by kernel_rfl) rfl rfl (YJ_loadN (vs := [_, _]) rfl tyi_122 m0 rfl rfl) ?_
     have hcb : 0 ≤ (mget (edT t k) L1).getD 0 ∧ (mget (edT t k) L1).getD 0 ≤ 1 := by
      rw [hWI.gt]
      split <;> omega
     refine AJ_two 2 4 rfl rfl (by kernel_rfl) rfl rfl rfl rfl (OJ_y (YJ_lookup (f := fK) (g := gI) (k := (edT t k)) rfl rfl umap_119 keyWay zer_3 (MapAt_own (l := L1) (c := c1) m1) rfl)) (OJ_mapEntry (f := fK) (g := gI) (k := (edT t k)) (z := (0 : Int)) 1 rfl rfl rfl umap_119 keyWay zer_3) ?_ ?_
     ·skip
      rintro _ _ _ ⟨rfl, rfl, rfl⟩
      refine ⟨fun _ _ h => h, fun _ _ h => h, ?_⟩
      refine AJ_val (v := .int .i64 ((mget (edT t k) L1).getD 0)) getD_map ?_
      show AJ _ _ _ _ _ _ _ _ (_ :: _ :: _ :: _) _
      refine AJ_y 3 rfl (by kernel_rfl) (by kernel_rfl) rfl rfl (YJ_bin rfl rfl (iop_add (by omega))) ?_
      refine AJ_mapEntry (f := fK) (g := gI) (k := (edT t k)) (z := (0 : Int)) 4 1 rfl (by kernel_rfl) rfl rfl rfl rfl rfl umap_119 keyWay zer_3 (AllIn.sub (And.intro m0 (And.intro m2 (trivial)))) ?_
      show AJ _ _ _ _ _ _ _ _ (_ :: _ :: _ :: _) _
      refine AJ_y 5 rfl (by kernel_rfl) (by kernel_rfl) rfl rfl (YJ_extract rfl rfl) ?_
      refine AJ_entryStore (f := fK) (g := gI) (b := (mborn (edT t k) L1 c1)) (v := ((mget (edT t k) L1).getD 0 + 1)) (l' := (mput (edT t k) ((mget (edT t k) L1).getD 0 + 1) L1 c1)) 6 1 rfl (by kernel_rfl) rfl rfl rfl rfl rfl (entry_mput (v := (0 : Int)) hWI.bn hWI.bc).2 (entry_mput hWI.bn hWI.bc).1 (AllIn.sub (And.intro m0 (And.intro m2 (trivial)))) ?_
      show AJ _ _ _ _ _ _ _ _ (_ :: _ :: _ :: _) _
      refine AJ_done (by kernel_rfl) ?_
      refine QJ_then ?_
      refine CJ_seq ?_
      refine CJ_reg ?_
      refine LJ_y rfl rfl (YJ_move rfl) ?_
      refine LJ_y rfl rfl (YJ_loadN (vs := [_, _]) rfl tyi_122 m0 rfl rfl) ?_
      refine LJ_y rfl rfl (YJ_lookup (f := fK) (g := gI) (k := (edT t k)) rfl rfl umap_119 keyWay zer_3 (MapAt_own (l := (mput (edT t k) ((mget (edT t k) L1).getD 0 + 1) L1 c1)) (c := mclk (edT t k) L1 c1) m1) rfl) ?_
      refine LJ_val (v := .int .i64 ((mget (edT t k) L1).getD 0 + 1)) (by rw [mget_mput, if_pos rfl]; rfl) ?_
      refine LJ_y rfl rfl (YJ_bin rfl rfl rfl) ?_
      refine LJ_nil ?_
      refine QJ_then ?_
      refine CJ_cond rfl (fun h52 => ?_) (fun h52 => ?_)
      ·simp only [decide_eq_true_eq] at h52
       refine CJ_seq ?_
       refine CJ_reg ?_
       refine LJ_y rfl rfl (YJ_assign rfl) ?_
       refine LJ_nil ?_
       refine QJ_then ?_
       refine CJ_ret ?_
       refine QJ_in_ret ?_
       refine QJ_then_ret ?_
       refine QJ_then_ret ?_
       refine QJ_in_ret ?_
       refine QJ_then_ret ?_
       refine QJ_in_ret ?_
       refine QJ_then_ret ?_
       refine QJ_then_ret ?_
       refine QJ_in_ret ?_
       refine QJ_then_ret ?_
       refine QJ_fin (.inl rfl) (μ' := []) (μr := _) (φ' := []) (res_tmp rfl rfl) (List.Perm.refl _) (fun _ h => nomatch h) ?_
       exact ⟨congrArg Value.bool (bfalse hb (fun q => by refine liveE_dup ht hk3 h26 ?_ q.1; have := hWI.gt (edT t k); apply Classical.byContradiction; intro p; rw [if_neg p] at this; omega)), rfl, rfl⟩
      ·simp only [decide_eq_false_iff_not] at h52
       have hnew : ¬ (edT t k) ∈ liveE (tris.take n) ++ (edTs t).take k := by
        intro q
        have := hWI.gt (edT t k)
        rw [if_pos q] at this
        omega
       refine CJ_skip ?_
       refine QJ_in_normal ?_
       refine QJ_then ?_
       refine CJ_reg ?_
       refine LJ_y rfl rfl (YJ_bin rfl rfl (iop_add (by omega))) ?_
       refine LJ_y rfl rfl (YJ_move rfl) ?_
       refine LJ_nil ?_
       refine QJ_roundF (F := fun (i : Nat × MW × Nat) => ⟨[(0, .pointer (some ⟨B, 0, none⟩)), (3, .map (some wm)), (12, .slice h.T tris.length h.ct), (13, .int .i64 tris.length), (14, .int .i64 (n : Nat)), (4, .int .i64 (n : Nat)), (5, .pointer (some ⟨b2, 0, none⟩)), (27, .int .i64 (i.1 : Nat))], [mapR wm fK gI i.2.1 i.2.2, cellsR b2 #[.int .i64 t.v0, .int .i64 t.v1, .int .i64 t.v2, .int .i64 t.n0, .int .i64 t.n1, .int .i64 t.n2, .bool t.f0, .bool t.f1, .bool t.f2] 37], []⟩) (I := fun (i : Nat × MW × Nat) => i.1 ≤ 3 ∧ WI pts tris n (liveE (tris.take n) ++ (edTs t).take i.1) i.2.1 i.2.2) (m := fun (i : Nat × MW × Nat) => 3 - i.1) (i := _) ((k + 1, (mput (edT t k) ((mget (edT t k) L1).getD 0 + 1) L1 c1), mclk (edT t k) L1 c1)) (μd := [_]) ⟨by omega, by dsimp only; rw [edTs_take hk3, ← List.append_assoc]; exact hWI.edge hnew⟩ (by dsimp only; omega) (And.intro rfl (And.intro rfl (And.intro rfl (And.intro rfl (And.intro rfl (And.intro rfl (And.intro rfl (And.intro rfl (trivial))))))))) (permI [1, 1] rfl) (fun _ h => nomatch h) (fun _ h => h)
     ·skip
      rintro _ _ _ ⟨rfl, rfl, rfl⟩
      refine ⟨by intro r hr h; clear h; revert r; exact AllIn.sub (And.intro m0 (And.intro m2 (trivial))), fun _ _ h => h, ?_⟩
      show AJ _ _ _ _ _ _ _ _ (_ :: _ :: _ :: _) _
      refine AJ_y 5 rfl (by kernel_rfl) (by kernel_rfl) rfl rfl (YJ_extract rfl rfl) ?_
      refine AJ_yo 2 rfl (by kernel_rfl) rfl rfl (YJ_lookup (f := fK) (g := gI) (k := (edT t k)) rfl rfl umap_119 keyWay zer_3 (MapAt_own (l := ment (edT t k) (0 : Int) L1 c1) (c := mclk (edT t k) L1 c1) m1) rfl) ?_
      refine AJ_val (v := .int .i64 ((mget (edT t k) L1).getD 0)) (getment) ?_
      refine AJ_y 3 rfl (by kernel_rfl) (by kernel_rfl) rfl rfl (YJ_bin rfl rfl (iop_add (by omega))) ?_
      refine AJ_entryStore (f := fK) (g := gI) (b := (mborn (edT t k) L1 c1)) (v := ((mget (edT t k) L1).getD 0 + 1)) (l' := (mput (edT t k) ((mget (edT t k) L1).getD 0 + 1) L1 c1)) 6 1 rfl (by kernel_rfl) rfl rfl rfl rfl rfl (entry_mput (v := (0 : Int)) hWI.bn hWI.bc).2 (entry_mput hWI.bn hWI.bc).1 (AllIn.sub (And.intro m0 (And.intro m2 (trivial)))) ?_
      show AJ _ _ _ _ _ _ _ _ (_ :: _ :: _ :: _) _
      refine AJ_done (by kernel_rfl) ?_
      refine QJ_then ?_
      refine CJ_seq ?_
      refine CJ_reg ?_
      refine LJ_y rfl rfl (YJ_move rfl) ?_
      refine LJ_y rfl rfl (YJ_loadN (vs := [_, _]) rfl tyi_122 m0 rfl rfl) ?_
      refine LJ_y rfl rfl (YJ_lookup (f := fK) (g := gI) (k := (edT t k)) rfl rfl umap_119 keyWay zer_3 (MapAt_own (l := (mput (edT t k) ((mget (edT t k) L1).getD 0 + 1) L1 c1)) (c := mclk (edT t k) L1 c1) m1) rfl) ?_
      refine LJ_val (v := .int .i64 ((mget (edT t k) L1).getD 0 + 1)) (by rw [mget_mput, if_pos rfl]; rfl) ?_
      refine LJ_y rfl rfl (YJ_bin rfl rfl rfl) ?_
      refine LJ_nil ?_
      refine QJ_then ?_
      refine CJ_cond rfl (fun h52 => ?_) (fun h52 => ?_)
      ·simp only [decide_eq_true_eq] at h52
       refine CJ_seq ?_
       refine CJ_reg ?_
       refine LJ_y rfl rfl (YJ_assign rfl) ?_
       refine LJ_nil ?_
       refine QJ_then ?_
       refine CJ_ret ?_
       refine QJ_in_ret ?_
       refine QJ_then_ret ?_
       refine QJ_then_ret ?_
       refine QJ_in_ret ?_
       refine QJ_then_ret ?_
       refine QJ_in_ret ?_
       refine QJ_then_ret ?_
       refine QJ_then_ret ?_
       refine QJ_in_ret ?_
       refine QJ_then_ret ?_
       refine QJ_fin (.inl rfl) (μ' := []) (μr := _) (φ' := []) (res_tmp rfl rfl) (List.Perm.refl _) (fun _ h => nomatch h) ?_
       exact ⟨congrArg Value.bool (bfalse hb (fun q => by refine liveE_dup ht hk3 h26 ?_ q.1; have := hWI.gt (edT t k); apply Classical.byContradiction; intro p; rw [if_neg p] at this; omega)), rfl, rfl⟩
      ·simp only [decide_eq_false_iff_not] at h52
       have hnew : ¬ (edT t k) ∈ liveE (tris.take n) ++ (edTs t).take k := by
        intro q
        have := hWI.gt (edT t k)
        rw [if_pos q] at this
        omega
       refine CJ_skip ?_
       refine QJ_in_normal ?_
       refine QJ_then ?_
       refine CJ_reg ?_
       refine LJ_y rfl rfl (YJ_bin rfl rfl (iop_add (by omega))) ?_
       refine LJ_y rfl rfl (YJ_move rfl) ?_
       refine LJ_nil ?_
       refine QJ_roundF (F := fun (i : Nat × MW × Nat) => ⟨[(0, .pointer (some ⟨B, 0, none⟩)), (3, .map (some wm)), (12, .slice h.T tris.length h.ct), (13, .int .i64 tris.length), (14, .int .i64 (n : Nat)), (4, .int .i64 (n : Nat)), (5, .pointer (some ⟨b2, 0, none⟩)), (27, .int .i64 (i.1 : Nat))], [mapR wm fK gI i.2.1 i.2.2, cellsR b2 #[.int .i64 t.v0, .int .i64 t.v1, .int .i64 t.v2, .int .i64 t.n0, .int .i64 t.n1, .int .i64 t.n2, .bool t.f0, .bool t.f1, .bool t.f2] 37], []⟩) (I := fun (i : Nat × MW × Nat) => i.1 ≤ 3 ∧ WI pts tris n (liveE (tris.take n) ++ (edTs t).take i.1) i.2.1 i.2.2) (m := fun (i : Nat × MW × Nat) => 3 - i.1) (i := _) ((k + 1, (mput (edT t k) ((mget (edT t k) L1).getD 0 + 1) L1 c1), mclk (edT t k) L1 c1)) (μd := [_]) ⟨by omega, by dsimp only; rw [edTs_take hk3, ← List.append_assoc]; exact hWI.edge hnew⟩ (by dsimp only; omega) (And.intro rfl (And.intro rfl (And.intro rfl (And.intro rfl (And.intro rfl (And.intro rfl (And.intro rfl (And.intro rfl (trivial))))))))) (permI [1, 1] rfl) (fun _ h => nomatch h) (fun _ h => h)
    ·simp only [decide_eq_false_iff_not] at h28
     have hk3 : 3 = k := by omega
     subst hk3
     refine CJ_exit ?_
     refine QJ_then_exit ?_
     refine QJ_then_exit ?_
     refine QJ_in_exit ?_
     refine QJ_then ?_
     refine CJ_seq ?_
     refine CJ_reg ?_
     refine LJ_y rfl rfl (YJ_move rfl) ?_
     refine LJ_y rfl rfl (YJ_move rfl) ?_
     refine LJ_call0 rfl rfl rfl rfl rfl (beside_c (h := h) (pts := pts) ht (by omega)) (at_mesh (fun r h => h)) ?_
     refine LJ_y rfl rfl (YJ_not rfl) ?_
     refine LJ_nil ?_
     refine QJ_then ?_
     refine CJ_cond rfl (fun h57 => ?_) (fun h57 => ?_)
     ·simp only [Bool.not_eq_true'] at h57
      refine CJ_seq ?_
      refine CJ_reg ?_
      refine LJ_y rfl rfl (YJ_assign rfl) ?_
      refine LJ_nil ?_
      refine QJ_then ?_
      refine CJ_ret ?_
      refine QJ_in_ret ?_
      refine QJ_then_ret ?_
      refine QJ_then_ret ?_
      refine QJ_in_ret ?_
      refine QJ_then_ret ?_
      refine QJ_fin (.inl rfl) (μ' := []) (μr := _) (φ' := []) (res_tmp rfl rfl) (List.Perm.refl _) (fun _ h => nomatch h) ?_
      exact ⟨congrArg Value.bool (bfalse hb (fun q => by have := q.2 n t ht; unfold okT at this; rw [h57, decide_eq_false h26, Bool.or_false, Bool.and_false] at this; cases this)), rfl, rfl⟩
     ·simp only [Bool.not_eq_false'] at h57
      refine CJ_skip ?_
      refine QJ_in_normal ?_
      refine QJ_then ?_
      refine CJ_reg ?_
      refine LJ_y rfl rfl (YJ_bin rfl rfl (iop_add (by omega))) ?_
      refine LJ_y rfl rfl (YJ_move rfl) ?_
      refine LJ_nil ?_
      refine QJ_roundF (F := fun (i : Nat × MW × Nat) => ⟨[(0, .pointer (some ⟨B, 0, none⟩)), (3, .map (some wm)), (12, .slice h.T tris.length h.ct), (13, .int .i64 tris.length), (14, .int .i64 (i.1 : Nat))], [mapR wm fK gI i.2.1 i.2.2], []⟩) (I := fun (i : Nat × MW × Nat) => i.1 ≤ tris.length ∧ WI pts tris i.1 (liveE (tris.take i.1)) i.2.1 i.2.2) (m := fun (i : Nat × MW × Nat) => tris.length - i.1) (i := (n, L0, c0)) ((n + 1, L1, c1)) (μd := [_]) ⟨by omega, hWI.next ht (by unfold okT; rw [h22, h57, Bool.or_true]; rfl) (by rw [liveE_take ht, if_neg h26]; rfl)⟩ (by dsimp only; omega) (And.intro rfl (And.intro rfl (And.intro rfl (And.intro rfl (And.intro rfl (trivial)))))) (permI [] rfl) (fun _ h => nomatch h) (fun _ h => h)
 ·simp only [decide_eq_false_iff_not] at h15
  have hn9 : n = tris.length := by omega
  subst hn9
  have hsnd : sndP pts tris := ⟨by have := hWI0.nd; rw [List.take_length] at this; exact this, fun q t hq => hWI0.ok q t (List.getElem?_eq_some_iff.1 hq).1 hq⟩
  obtain ⟨hst, har⟩ := hs hsnd
  refine CJ_exit ?_
  refine QJ_then_exit ?_
  refine QJ_then_exit ?_
  refine QJ_in_exit ?_
  refine QJ_then ?_
  refine CJ_seq ?_
  refine CJ_reg ?_
  refine LJ_y rfl rfl (YJ_move rfl) ?_
  refine LJ_call0 rfl rfl rfl rfl rfl (stars_c hna hlen hal hst) (fun r h => h) ?_
  refine LJ_y rfl rfl (YJ_move rfl) ?_
  refine LJ_bool (c := true) rfl ?_
  refine LJ_y rfl rfl (YJ_move rfl) ?_
  refine LJ_call0 rfl rfl rfl rfl rfl (area_c (h := h) hP (okTris_of hv) hlen rfl har.lv har.cv har.sum) (at_mesh (fun r h => h)) ?_
  refine LJ_y rfl rfl (YJ_pickT rfl rfl) ?_
  refine LJ_y rfl rfl (YJ_assign rfl) ?_
  refine LJ_nil ?_
  refine QJ_then ?_
  refine CJ_ret ?_
  refine QJ_fin (.inl rfl) (μ' := []) (μr := _) (φ' := []) (res_tmp rfl rfl) (List.Perm.refl _) (fun _ h => nomatch h) ?_
  exact ⟨congrArg Value.bool (hb.2 hsnd).symm, rfl, rfl⟩
end Go.Proofs.Ytbanlhlggkdanaa
namespace Go.Proofs.Ytbanlhlggkdanaa
open Go.RowKit
section
variable {E : Env} {Q : Qt} {σ : List (Nat × Value)} {μ φ : List Res} {ops : Array Oper} {rest : List Oper} {cd : Code} {B : Nat} {M : MD}
def frzFs (B : Nat) (M : MD) (h : Mh) : List Res := meshFs B h M.pts M.tris ++ [sliceR 1 h.F M.free.length (Iv M.free), sliceR 1 h.A M.ats.length (Iv M.ats)]
theorem OKm.freezeMesh {w : World} (hm : OKm E (meshR B M :: μ) φ w) : ∃ h : Mh, (h.nf = M.free.length ∧ h.na = M.ats.length ∧ (0 < M.tris.length → M.tris.length ≤ h.ct)) ∧ OKm E μ (frzFs B M h ++ φ) w := by
 obtain ⟨⟨P, cP, T, cT, F, cF, A, cA⟩, h1⟩ := hm.openEx
 have h2 : OKm E (cellsR B #[.slice P M.pts.length cP, .slice T M.tris.length cT, .slice F M.free.length cF, .slice A M.ats.length cA] 57 ::
  rowR 23 2 P M.pts.length cP (ptCells M.pts) :: rowR 37 9 T M.tris.length cT (trCells M.tris) :: rowR 3 1 F M.free.length cF (Iv M.free) :: rowR 3 1 A M.ats.length cA (Iv M.ats) :: μ) φ w := h1
 have h3 := h2.freeze.addF (r' := sliceR 4 (some ⟨B, 0, none⟩) 1 [.slice P M.pts.length cP, .slice T M.tris.length cT, .slice F M.free.length cF, .slice A M.ats.length cA]) (.head _) (fun S h => cellsR_slice (n := 1) rfl w S h)
 have h4 := h3.freezeRow.freezeRow.freezeRow.freezeRow
 refine ⟨⟨P, cP, T, cT, F, M.free.length, cF, A, M.ats.length, cA⟩, ⟨rfl, rfl, fun hn => let ⟨_, _, q⟩ := h2.rowSome (.tail _ (.tail _ (.head _))) hn; q⟩, h4.weak (μr := []) (by simp) ?_⟩
 intro r hr
 simp only [frzFs, meshFs, List.cons_append, List.nil_append, List.mem_cons] at hr
 simp only [List.mem_cons]
 rcases hr with h | h | h | h | h | h
 ·exact .inr (.inr (.inr (.inr (.inl h))))
 ·exact .inr (.inr (.inr (.inl h)))
 ·exact .inr (.inr (.inl h))
 ·exact .inr (.inl h)
 ·exact .inl h
 ·exact .inr (.inr (.inr (.inr (.inr (.inr h)))))
theorem LJ_freezeMesh (h : ∀ hm : Mh, hm.nf = M.free.length → hm.na = M.ats.length → LJ E Q ops rest σ μ (frzFs B M hm ++ φ)) : LJ E Q ops rest σ (meshR B M :: μ) φ := fun a w ha hm => let ⟨x, h1, h3⟩ := hm.freezeMesh; h x h1.1 h1.2.1 a w ha h3
theorem CJ_freezeMesh (h : ∀ hm : Mh, hm.nf = M.free.length → hm.na = M.ats.length → CJ E Q cd σ μ (frzFs B M hm ++ φ)) : CJ E Q cd σ (meshR B M :: μ) φ := fun a w ha hm => let ⟨x, h1, h3⟩ := hm.freezeMesh; h x h1.1 h1.2.1 a w ha h3
theorem frz_mesh {h : Mh} : ∀ r, r ∈ meshFs B h M.pts M.tris → r ∈ frzFs B M h ++ φ := fun r hr => List.mem_append_left _ (List.mem_append_left _ hr)
end
theorem eqs_ptr (a : Addr) (x y : Operand) (w : World) :
  (do eqGuard .eql 28 x y (.pointer (some a)) (.pointer none); binOp .eql 28 (.pointer (some a)) (.pointer none) : Sem Value).run Try.prog w = .ok (.bool false) w := by
 simp only [Sem.run_bind]
 rw [show (eqGuard .eql 28 x y (.pointer (some a)) (.pointer none)) = pure () from rfl]
 simp only [Sem.run_pure, Result.andThen_ok]
 rw [run_eql_pointer_nil w 28 (some a) (by kernel_rfl)]
 rfl
def triNew (a b c : Int) : List Tr := [⟨a, b, c, 1, 2, 3, false, false, false⟩, ⟨c, b, -1, 3, 2, 0, false, false, false⟩, ⟨a, c, -1, 1, 3, 0, false, false, false⟩, ⟨b, a, -1, 2, 1, 0, false, false, false⟩]
theorem newM_pts (pts : List (Int × Int)) (a b c : Int) : (newM pts a b c).pts = pts := rfl
end Go.Proofs.Ytbanlhlggkdanaa
