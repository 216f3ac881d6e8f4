/- Rules for single operations, over the engine. No law is proved here. -/
import Derived.Test.YtbanlhlggkdanaaEng
import Derived.Laws.Tables
set_option linter.unusedSimpArgs false
set_option linter.unusedVariables false
namespace Go.Proofs.Ytbanlhlggkdanaa
open Go.RowKit

/-! ### closed facts on types -/
def tyi (P : Program) (t : TypeId) : Option (Bool × Nat) :=
  match P.underlying t, P.info? t with
  | some d, some i => some (match d with | .struct _ | .array .. => true | _ => false, i.size)
  | _, _ => none
def zer (P : Program) (t : TypeId) : Option Value := (P.info? t).bind (·.zero)
/-- a struct's field: its offset, and that it has cells -/
def fld (P : Program) (t : TypeId) (i : Nat) : Option Nat :=
  match P.underlying t with
  | some (.struct fs) => match fs[i]? with
    | some f => match P.info? f.type with
      | some fi => if fi.size = 0 then none else some f.offset
      | none => none
    | none => none
  | _ => none
def elt (P : Program) (t : TypeId) : Option (TypeId × Nat × Nat) :=
  match P.underlying t with
  | some (.slice e) => (P.info? e).map fun i => (e, i.size, i.bytes)
  | _ => none

theorem run_isAgg {P : Program} {t : TypeId} {b : Bool} {n : Nat} (h : tyi P t = some (b, n)) (w : World) : (isAgg t).run P w = .ok b w := by
  unfold tyi at h
  cases hu : P.underlying t with
  | none => rw [hu] at h; simp at h
  | some d =>
    rw [hu] at h
    cases hi : P.info? t with
    | none => rw [hi] at h; simp at h
    | some i =>
      rw [hi] at h
      simp only [Option.some.injEq, Prod.mk.injEq] at h
      unfold isAgg
      simp only [Sem.run_bind, run_underlying hu, Result.andThen_ok]
      cases d <;> (rw [← h.1]; rfl)
theorem run_sizeOf' {P : Program} {t : TypeId} {b : Bool} {n : Nat} (h : tyi P t = some (b, n)) (w : World) : (sizeOf t).run P w = .ok n w := by
  unfold tyi at h
  cases hu : P.underlying t with
  | none => rw [hu] at h; simp at h
  | some d =>
    rw [hu] at h
    cases hi : P.info? t with
    | none => rw [hi] at h; simp at h
    | some i =>
      rw [hi] at h
      simp only [Option.some.injEq, Prod.mk.injEq] at h
      rw [← h.2]
      simp [sizeOf, typeInfo, hi]
theorem run_zeroValue' {P : Program} {t : TypeId} {v : Value} (h : zer P t = some v) (w : World) : (zeroValue t).run P w = .ok v w := by
  unfold zer at h
  cases hi : P.info? t with
  | none => rw [hi] at h; simp at h
  | some i =>
    rw [hi] at h
    have hz : i.zero = some v := by simpa using h
    simp [zeroValue, typeInfo, hi, hz]

/-! ### resources of memory -/
/-- block b is just these cells, none frozen -/
def cellsR (b : Nat) (cs : Array Value) (t : TypeId) : Res where
  p w S := w.heap[b]? = some (.cells cs t (0, 0)) ∧ ∀ k, S k ↔ k = b
  loc := fun {w w' S} ⟨h, hs⟩ hk => ⟨(hk b ((hs b).2 rfl)).trans h, hs⟩
  lt := fun {w S k} ⟨h, hs⟩ hk => by
    have e := (hs k).1 hk
    subst e
    rcases Nat.lt_or_ge k w.heap.size with h' | h'
    · exact h'
    · rw [Array.getElem?_eq_none h'] at h; cases h

/-- the slice A, n reads as these cells (so many to an element) -/
def sliceR (size : Nat) (A : Option Addr) (n : Nat) (xs : List Value) : Res where
  p w S := xs.length = n * size ∧ (if xs.length = 0 then ∀ k, ¬ S k else ∃ ad, A = some ad ∧ (∀ k, S k ↔ k = ad.block) ∧ ∀ j v, xs[j]? = some v → w.cell? (ad.add j) = some v)
  loc := fun {w w' S} ⟨h, hs⟩ hk => by
    refine ⟨h, ?_⟩
    split
    · rename_i h0; rw [if_pos h0] at hs; exact hs
    · rename_i h0
      rw [if_neg h0] at hs
      obtain ⟨ad, e, hS, hc⟩ := hs
      refine ⟨ad, e, hS, fun j v hj => ?_⟩
      have hb : (ad.add j).block = ad.block := by unfold Addr.add; split <;> rfl
      rw [World.cell?_of_block (w := w) (by rw [hb]; exact hk _ ((hS _).2 rfl))]
      exact hc j v hj
  lt := fun {w S k} ⟨h, hs⟩ hk => by
    split at hs
    · exact absurd hk (hs k)
    · rename_i h0
      obtain ⟨ad, e, hS, hc⟩ := hs
      have e := (hS k).1 hk
      subst e
      have h1 : 0 < xs.length := by omega
      have h2 := hc 0 xs[0] (List.getElem?_eq_getElem h1)
      have hb : (ad.add 0).block = ad.block := by unfold Addr.add; split <;> rfl
      have := World.block_lt_of_cell? w _ h2
      omega

def adr (A : Option Addr) : Addr := A.getD default

theorem sliceR.cell {size n : Nat} {A : Option Addr} {xs : List Value} {w : World} {S : Nat → Prop} (h : (sliceR size A n xs).p w S) {j : Nat} {v : Value} (hj : xs[j]? = some v) : w.cell? ((adr A).add j) = some v := by
  obtain ⟨hl, hs⟩ := h
  have h1 : j < xs.length := by
    rcases Nat.lt_or_ge j xs.length with h' | h'
    · exact h'
    · rw [List.getElem?_eq_none h'] at hj; cases hj
  rw [if_neg (by omega)] at hs
  obtain ⟨ad, e, _, hc⟩ := hs
  subst e
  exact hc j v hj
theorem sliceR.some_ {size n : Nat} {A : Option Addr} {xs : List Value} {w : World} {S : Nat → Prop} (h : (sliceR size A n xs).p w S) (hn : 0 < xs.length) : A = some (adr A) := by
  obtain ⟨hl, hs⟩ := h
  rw [if_neg (by omega)] at hs
  obtain ⟨ad, e, _, hc⟩ := hs
  subst e
  rfl
theorem Addr.add_add (a : Addr) (i j : Nat) : (a.add i).add j = a.add (i + j) := by
  unfold Addr.add
  by_cases hi : i = 0 <;> by_cases hj : j = 0 <;> simp [hi, hj, Nat.add_assoc]

theorem run_loadVar1 {P : Program} {t : TypeId} {w : World} {a : Addr} {v : Value} (h : tyi P t = some (false, 1)) (hc : w.cell? a = some v) : (loadVar t a).run P w = .ok v w := by
  unfold loadVar
  simp [run_isAgg h, load, Sem.run, hc]
theorem run_loadVarN {P : Program} {t : TypeId} {w : World} {a : Addr} {n : Nat} {vs : List Value} (h : tyi P t = some (true, n)) (hl : vs.length = n) (hc : ∀ j v, vs[j]? = some v → w.cell? (a.add j) = some v) : (loadVar t a).run P w = .ok (.agg vs.toArray) w := by
  unfold loadVar
  have := run_loadCells_list (P := P) w a vs hc
  rw [hl] at this
  simp [run_isAgg h, run_sizeOf' h, this]

def lget : List Value → Nat → Option Value
  | [], _ => none
  | v :: _, 0 => some v
  | _ :: r, n + 1 => lget r n
theorem lget_eq : ∀ (l : List Value) (n : Nat), lget l n = l[n]?
  | [], _ => by simp [lget]
  | _ :: _, 0 => by simp [lget]
  | _ :: r, n + 1 => by simp [lget, lget_eq r n]
/-! ### results of arithmetic -/
def iop : BinOp → IntKind → Int → Int → Option Value
  | .add, k, a, b => some (.int k (k.wrap (a + b)))
  | .sub, k, a, b => some (.int k (k.wrap (a - b)))
  | .mul, k, a, b => some (.int k (k.wrap (a * b)))
  | .lss, _, a, b => some (.bool (decide (a < b)))
  | .leq, _, a, b => some (.bool (decide (a ≤ b)))
  | .gtr, _, a, b => some (.bool (decide (b < a)))
  | .geq, _, a, b => some (.bool (decide (b ≤ a)))
  | .eql, _, a, b => some (.bool (decide (a = b)))
  | .neq, _, a, b => some (.bool (!decide (a = b)))
  | _, _, _, _ => none

section
variable {E : Env} {ty : TypeId} {σ : List (Nat × Value)} {μ φ : List Res}

theorem YJ_move {x : Operand} {v : Value} (hx : oev σ x = some v) : YJ E (.move x) ty σ μ φ v := fun a w _ _ _ _ hs _ _ => by
  simp only [execOp, hs.ev hx]
  simp
theorem YJ_assign {x : Operand} {v : Value} (hx : oev σ x = some v) : YJ E (.assign x) ty σ μ φ v := fun a w _ _ _ _ hs _ _ => by
  simp only [execOp, hs.ev hx]
  simp
theorem YJ_pickT {c x y : Operand} {v : Value} (hc : oev σ c = some (.bool true)) (hx : oev σ x = some v) : YJ E (.pick c x y) ty σ μ φ v := fun a w _ _ _ _ hs _ _ => by
  simp only [execOp, hs.ev hc, hs.ev hx]
  simp [asBool]
theorem YJ_pickF {c x y : Operand} {v : Value} (hc : oev σ c = some (.bool false)) (hy : oev σ y = some v) : YJ E (.pick c x y) ty σ μ φ v := fun a w _ _ _ _ hs _ _ => by
  simp only [execOp, hs.ev hc, hs.ev hy]
  simp [asBool]
theorem YJ_extract {x : Operand} {i : Nat} {vs : Array Value} {v : Value} (hx : oev σ x = some (.tuple vs)) (hi : lget vs.toList i = some v) : YJ E (.extract x i) ty σ μ φ v := fun a w _ _ _ _ hs _ _ => by
  rw [lget_eq, Array.getElem?_toList] at hi
  simp only [execOp, hs.ev hx]
  simp [Instr.extract, hi]
theorem YJ_bin {op : BinOp} {xt yt : TypeId} {x y : Operand} {k : IntKind} {a b : Int} {v : Value} (hx : oev σ x = some (.int k a)) (hy : oev σ y = some (.int k b)) (hv : iop op k a b = some v) :
    YJ E (.binOp op xt x y yt) ty σ μ φ v := fun ac w _ _ _ _ hs _ _ => by
  have e1 := hs.ev hx
  have e2 := hs.ev hy
  simp only [execOp, e1, e2]
  cases op <;> simp only [iop, Option.some.injEq, reduceCtorEq] at hv <;> subst hv <;> simp [eqGuard_add, eqGuard_sub, eqGuard_mul, eqGuard_lss, eqGuard_leq, eqGuard_gtr, eqGuard_geq, eqGuard_at_int, binOp_add, binOp_sub, binOp_mul, binOp_lss, binOp_leq, binOp_gtr, binOp_geq, binOp_eql, binOp_neq, Op.intArith] <;> rfl
theorem YJ_shr {xt yt : TypeId} {x y : Operand} {k yk : IntKind} {a b : Int} (hx : oev σ x = some (.int k a)) (hy : oev σ y = some (.int yk b)) (hb : 0 ≤ b) :
    YJ E (.binOp .shr xt x y yt) ty σ μ φ (.int k (a / 2 ^ min b.toNat k.bits)) := fun ac w _ _ _ _ hs _ _ => by
  simp only [execOp, hs.ev hx, hs.ev hy]
  simp [eqGuard_shr, binOp_shr, shift_shr_any k yk a b hb]
theorem YJ_rem {xt yt : TypeId} {x y : Operand} {k : IntKind} {a b : Int} (hx : oev σ x = some (.int k a)) (hy : oev σ y = some (.int k b)) (hb : b ≠ 0) :
    YJ E (.binOp .rem xt x y yt) ty σ μ φ (.int k (a.tmod b)) := fun ac w _ _ _ _ hs _ _ => by
  simp only [execOp, hs.ev hx, hs.ev hy]
  simp [eqGuard_rem, binOp_rem, Op.intDiv, hb]
theorem YJ_quo {xt yt : TypeId} {x y : Operand} {k : IntKind} {a b : Int} (hx : oev σ x = some (.int k a)) (hy : oev σ y = some (.int k b)) (hb : b ≠ 0) :
    YJ E (.binOp .quo xt x y yt) ty σ μ φ (.int k (k.wrap (a.tdiv b))) := fun ac w _ _ _ _ hs _ _ => by
  simp only [execOp, hs.ev hx, hs.ev hy]
  simp [eqGuard_quo, binOp_quo, Op.intDiv, hb]
theorem YJ_bits {op : BinOp} {xt yt : TypeId} {x y : Operand} {k : IntKind} {a b : Int} {v : Value} (hx : oev σ x = some (.int k a)) (hy : oev σ y = some (.int k b))
    (hv : ∀ P w, (do eqGuard op xt x y (.int k a) (.int k b); binOp op xt (.int k a) (.int k b) : Sem Value).run P w = .ok v w) :
    YJ E (.binOp op xt x y yt) ty σ μ φ v := fun ac w _ _ _ _ hs _ _ => by
  have := hv E.P w
  simp only [execOp, hs.ev hx, hs.ev hy]
  simp only [Sem.run_bind] at this ⊢
  rw [this]
  simp
theorem YJ_eqb {xt yt : TypeId} {x y : Operand} {a b : Bool} (hx : oev σ x = some (.bool a)) (hy : oev σ y = some (.bool b)) (hu : E.P.underlying xt = some .bool) :
    YJ E (.binOp .eql xt x y yt) ty σ μ φ (.bool (a == b)) := fun ac w _ _ _ _ hs _ _ => by
  simp only [execOp, hs.ev hx, hs.ev hy]
  simp [go_sem, hu]
theorem YJ_neb {xt yt : TypeId} {x y : Operand} {a b : Bool} (hx : oev σ x = some (.bool a)) (hy : oev σ y = some (.bool b)) (hu : E.P.underlying xt = some .bool) :
    YJ E (.binOp .neq xt x y yt) ty σ μ φ (.bool (a != b)) := fun ac w _ _ _ _ hs _ _ => by
  simp only [execOp, hs.ev hx, hs.ev hy]
  simp [go_sem, hu, bne]
/-- an equation of structs, by a law of its own -/
theorem YJ_eqs {op : BinOp} {xt yt : TypeId} {x y : Operand} {u u' v : Value} (hx : oev σ x = some u) (hy : oev σ y = some u')
    (hv : ∀ w, (do eqGuard op xt x y u u'; binOp op xt u u' : Sem Value).run E.P w = .ok v w) :
    YJ E (.binOp op xt x y yt) ty σ μ φ v := fun ac w _ _ _ _ hs _ _ => by
  have := hv w
  simp only [execOp, hs.ev hx, hs.ev hy]
  simp only [Sem.run_bind] at this ⊢
  rw [this]
  simp
theorem YJ_not {xt : TypeId} {x : Operand} {a : Bool} (hx : oev σ x = some (.bool a)) : YJ E (.unOp .not xt x) ty σ μ φ (.bool (!a)) := fun ac w _ _ _ _ hs _ _ => by
  simp only [execOp, hs.ev hx]
  simp [unary_not]
theorem YJ_neg {xt : TypeId} {x : Operand} {k : IntKind} {a : Int} {v : Value} (hx : oev σ x = some (.int k a)) (hv : iop .sub k 0 a = some v) : YJ E (.unOp .neg xt x) ty σ μ φ v := fun ac w _ _ _ _ hs _ _ => by
  simp only [iop, Option.some.injEq] at hv
  subst hv
  simp only [execOp, hs.ev hx]
  simp [unary_neg, Op.intArith]
theorem YJ_xor {xt : TypeId} {x : Operand} {a : Int} (hx : oev σ x = some (.int .u64 a)) (h0 : 0 ≤ a) (h1 : a < 18446744073709551616) : YJ E (.unOp .xor xt x) ty σ μ φ (.int .u64 (18446744073709551615 - a)) := fun ac w _ _ _ _ hs _ _ => by
  simp only [execOp, hs.ev hx, unary_xor]
  have e : (BitVec.ofInt 64 18446744073709551615 ^^^ BitVec.ofInt 64 a : BitVec 64) = BitVec.ofInt 64 (18446744073709551615 - a) := by
    have h2 : (BitVec.ofInt 64 18446744073709551615 : BitVec 64) = BitVec.allOnes 64 := by decide
    rw [h2, BitVec.allOnes_xor]
    apply BitVec.eq_of_toNat_eq
    rw [BitVec.toNat_not, BitVec.toNat_ofInt, BitVec.toNat_ofInt]
    omega
  have e2 : (BitVec.ofInt 64 (18446744073709551615 - a)).toNat = (18446744073709551615 - a).toNat := by
    rw [BitVec.toNat_ofInt]; omega
  have hk : (if IntKind.u64.signed then (-1 : Int) else IntKind.u64.max) = 18446744073709551615 := by decide
  rw [hk]
  have : (Op.intBits .xor .u64 18446744073709551615 a) = pure (.int .u64 (18446744073709551615 - a)) := by
    unfold Op.intBits
    show (pure (Value.int .u64 (IntKind.u64.wrap ((BitVec.ofInt 64 18446744073709551615 ^^^ BitVec.ofInt 64 a : BitVec 64).toNat : Int))) : Sem Value) = _
    rw [e, e2]
    congr 2
    have : ((18446744073709551615 - a).toNat : Int) = 18446744073709551615 - a := by omega
    rw [this]
    simp only [IntKind.wrap, IntKind.bits, IntKind.signed]
    simp
    omega
  simp only [this]
  simp
theorem YJ_convII {src dst : TypeId} {x : Operand} {k k' : IntKind} {a : Int} (hx : oev σ x = some (.int k a)) (hs' : (E.P.underlying src).isSome = true) (hd : E.P.underlying dst = some (.int k')) :
    YJ E (.convert src dst x) ty σ μ φ (.int k' (k'.wrap a)) := fun ac w _ _ _ _ hs _ _ => by
  obtain ⟨d, hd'⟩ := Option.isSome_iff_exists.mp hs'
  simp only [execOp, hs.ev hx, convert, Sem.run_bind, run_underlying hd', run_underlying hd, Result.andThen_ok]
  cases d <;> rfl
theorem YJ_build {t : TypeId} {parts : Array (Nat × Operand)} {pvs : List (Nat × Value)} {cells : Array Value} (hp : ∀ a, Slots σ a → (parts.map fun p => (p.1, a.eval p.2)).toList = pvs) (hb : E.P.built t pvs = some cells) :
    YJ E (.build t parts) ty σ μ φ (.agg cells) := fun ac w _ _ _ _ hs _ _ => by
  have h1 := hp ac hs
  have h2 : E.P.built t (parts.map fun p => (p.1, ac.eval p.2)).toList = some cells := by rw [h1]; exact hb
  simp only [execOp]
  simp [run_build w t _ cells h2]
theorem YJ_len {x : Operand} {at_ : Array TypeId} {A : Option Addr} {n c : Nat} (hx : oev σ x = some (.slice A n c)) (ht : (at_[0]?).bind E.P.underlying = some (.slice (E.P.elem (at_.getD 0 0)))) (h1 : at_.size = 1) :
    YJ E (.call { callee := .builtin .len, args := #[x], argTypes := at_ }) ty σ μ φ (.int .i64 n) := fun ac w _ _ _ _ hs _ _ => by
  obtain ⟨l⟩ := at_
  match l, h1 with
  | [t], _ =>
    have ht' : E.P.underlying t = some (.slice (E.P.elem t)) := by simpa using ht
    simp only [execOp, hs.ev hx]
    simp [resolve, invoke, builtin, hs.ev hx, run_len_slice w t ty A n c ht', goInt]
theorem YJ_fieldAddr {s : TypeId} {x : Operand} {i off : Nat} {ad : Addr} (hx : oev σ x = some (.pointer (some ad))) (hf : fld E.P s i = some off) : YJ E (.fieldAddr s x i) ty σ μ φ (.pointer (some (ad.add off))) := fun ac w _ _ _ _ hs _ _ => by
  unfold fld at hf
  cases hu : E.P.underlying s with
  | none => rw [hu] at hf; simp at hf
  | some d =>
    rw [hu] at hf
    cases d <;> simp at hf
    rename_i fs
    cases hfi : fs[i]? with
    | none => rw [hfi] at hf; simp at hf
    | some f =>
      rw [hfi] at hf
      simp only at hf
      cases hi : E.P.info? f.type with
      | none => rw [hi] at hf; simp at hf
      | some fi =>
        rw [hi] at hf
        simp only [Option.ite_none_left_eq_some, Option.some.injEq] at hf
        obtain ⟨h0, rfl⟩ := hf
        simp only [execOp, hs.ev hx]
        simp [Instr.fieldAt, run_underlying hu, hfi, Instr.sureAddr, fieldPlace, sizeOf, typeInfo, hi, h0]
theorem YJ_fieldOwn {s : TypeId} {x : Operand} {i off b o : Nat} (hx : oev σ x = some (.pointer (some ⟨b, o, none⟩))) (hf : fld E.P s i = some off) {q : Nat} (hq : Nat.add o off = q) : YJ E (.fieldAddr s x i) ty σ μ φ (.pointer (some ⟨b, q, none⟩)) := fun ac w d pos af g hs h1 h2 => by
  have := YJ_fieldAddr (E := E) (ty := ty) (μ := μ) (φ := φ) hx hf ac w d pos af g hs h1 h2
  rw [this, Addr.add_lit]
  subst hq; rfl
/-- a field of a struct value -/
theorem YJ_field1 {xt : TypeId} {x : Operand} {i off : Nat} {cs : Array Value} {v : Value} (hx : oev σ x = some (.agg cs)) (hf : ∀ w, (Instr.field xt (.agg cs) i).run E.P w = .ok v w) : YJ E (.field xt x i) ty σ μ φ v := fun ac w _ _ _ _ hs _ _ => by
  simp only [execOp, hs.ev hx]
  simp [hf]
theorem YJ_load1 {t t' : TypeId} {x : Operand} {b off : Nat} {cs : Array Value} {v : Value} (hx : oev σ x = some (.pointer (some ⟨b, off, none⟩))) (ht : tyi E.P t = some (false, 1)) (hm : cellsR b cs t' ∈ μ) (hc : cs[off]? = some v) :
    YJ E (.load t x) ty σ μ φ v := fun ac w _ _ _ _ hs hmu _ => by
  obtain ⟨S, h, _⟩ := hmu _ hm
  have := run_loadVar1 (P := E.P) ht ((cell_of_row w b off cs t' (0, 0) h).trans hc)
  simp only [execOp, hs.ev hx]
  simp [Instr.loadAt, Instr.sureAddr, this]
theorem YJ_loadL {t t' : TypeId} {x : Operand} {b off : Nat} {cs : Array Value} {v : Value} (hx : oev σ x = some (.pointer (some ⟨b, off, none⟩))) (ht : tyi E.P t = some (false, 1)) (hm : cellsR b cs t' ∈ μ) (hc : lget cs.toList off = some v) :
    YJ E (.load t x) ty σ μ φ v := YJ_load1 hx ht hm (by rw [← hc, lget_eq, Array.getElem?_toList])
theorem YJ_loadN {t t' : TypeId} {x : Operand} {b off n : Nat} {cs : Array Value} {vs : List Value} (hx : oev σ x = some (.pointer (some ⟨b, off, none⟩))) (ht : tyi E.P t = some (true, n)) (hm : cellsR b cs t' ∈ μ)
    (hc : (cs.toList.drop off).take n = vs) (hl : vs.length = n) :
    YJ E (.load t x) ty σ μ φ (.agg vs.toArray) := fun ac w _ _ _ _ hs hmu _ => by
  obtain ⟨S, h, _⟩ := hmu _ hm
  have := run_loadVarN (P := E.P) (w := w) (a := ⟨b, off, none⟩) ht hl (fun j v hj => by
    rw [Addr.add_lit, cell_of_row w b (off + j) cs t' (0, 0) h, ← hj, ← hc]
    have hjn : j < n := by
      rcases Nat.lt_or_ge j n with h' | h'
      · exact h'
      · rw [List.getElem?_eq_none (by omega)] at hj; cases hj
    rw [List.getElem?_take_of_lt hjn, List.getElem?_drop, Array.getElem?_toList])
  simp only [execOp, hs.ev hx]
  simp [Instr.loadAt, Instr.sureAddr, this]
/-- an element's address: of a slice of the call's own -/
theorem YJ_ixOwn {xt e : TypeId} {x y : Operand} {b off n c size : Nat} {k : IntKind} {i : Int} {bb : Nat} (hx : oev σ x = some (.slice (some ⟨b, off, none⟩) n c)) (hy : oev σ y = some (.int k i)) (he : elt E.P xt = some (e, size, bb)) (h0 : 0 ≤ i) (h1 : i < n) :
    YJ E (.indexAddr xt x y) ty σ μ φ (.pointer (some ⟨b, off + i.toNat * size, none⟩)) := fun ac w _ _ _ _ hs _ _ => by
  unfold elt at he
  cases hu : E.P.underlying xt with
  | none => rw [hu] at he; simp at he
  | some d =>
    rw [hu] at he
    cases d <;> simp at he
    rename_i e'
    obtain ⟨i', hi, rfl, rfl, rfl⟩ := he
    simp only [execOp, hs.ev hx, hs.ev hy]
    simp [Instr.indexAt, asIntOf, run_underlying hu, sizeOf, typeInfo, hi, h0, h1, Addr.add_lit]
/-- an element's address: of a slice that is a fact -/
theorem YJ_ixFact {xt e : TypeId} {x y : Operand} {A : Option Addr} {n n' c size : Nat} {k : IntKind} {i : Int} {bb : Nat} {xs : List Value} (hx : oev σ x = some (.slice A n c)) (hy : oev σ y = some (.int k i)) (he : elt E.P xt = some (e, size, bb)) (hm : sliceR size A n' xs ∈ φ) (hz : 0 < size) (h0 : 0 ≤ i) (h1 : i < n) (h2 : n ≤ n') :
    YJ E (.indexAddr xt x y) ty σ μ φ (.pointer (some ((adr A).add (i.toNat * size)))) := fun ac w _ _ _ _ hs _ hp => by
  unfold elt at he
  obtain ⟨S, h⟩ := hp _ hm
  have hl : 0 < xs.length := by
    rw [h.1]
    exact Nat.mul_pos (by omega) hz
  have hA := sliceR.some_ h hl
  cases hu : E.P.underlying xt with
  | none => rw [hu] at he; simp at he
  | some d =>
    rw [hu] at he
    cases d <;> simp at he
    rename_i e'
    obtain ⟨i', hi, rfl, rfl, rfl⟩ := he
    rw [hA] at hx
    simp only [execOp, hs.ev hx, hs.ev hy]
    simp [Instr.indexAt, asIntOf, run_underlying hu, sizeOf, typeInfo, hi, h0, h1]
theorem YJ_loadFact {t : TypeId} {x : Operand} {A : Option Addr} {n j size : Nat} {xs : List Value} {v : Value} (hx : oev σ x = some (.pointer (some ((adr A).add j)))) (ht : tyi E.P t = some (false, 1)) (hm : sliceR size A n xs ∈ φ) (hc : xs[j]? = some v) :
    YJ E (.load t x) ty σ μ φ v := fun ac w _ _ _ _ hs _ hp => by
  obtain ⟨S, h⟩ := hp _ hm
  have := run_loadVar1 (P := E.P) ht (sliceR.cell h hc)
  simp only [execOp, hs.ev hx]
  simp [Instr.loadAt, Instr.sureAddr, this]
theorem YJ_loadFactN {t : TypeId} {x : Operand} {A : Option Addr} {n j size m : Nat} {xs vs : List Value} (hx : oev σ x = some (.pointer (some ((adr A).add j)))) (ht : tyi E.P t = some (true, m)) (hm : sliceR size A n xs ∈ φ) (hc : (xs.drop j).take m = vs) (hl : vs.length = m) :
    YJ E (.load t x) ty σ μ φ (.agg vs.toArray) := fun ac w _ _ _ _ hs _ hp => by
  obtain ⟨S, h⟩ := hp _ hm
  have := run_loadVarN (P := E.P) (w := w) (a := (adr A).add j) ht hl (fun q v hq => by
    rw [Addr.add_add]
    refine sliceR.cell h ?_
    rw [← hq, ← hc]
    have hjn : q < m := by
      rcases Nat.lt_or_ge q m with h' | h'
      · exact h'
      · rw [List.getElem?_eq_none (by omega)] at hq; cases hq
    rw [List.getElem?_take_of_lt hjn, List.getElem?_drop])
  simp only [execOp, hs.ev hx]
  simp [Instr.loadAt, Instr.sureAddr, this]

/-! ### operations that change the world -/
theorem OKm.step {w w' : World} {μ φ : List Res} (h : OKm E μ φ w) (hk : Keeps (fun _ => False) w w') : OKm E μ φ w' := by
  obtain ⟨S, T, h1, h2, h3, h4, h5, h6⟩ := h.mem
  refine ⟨h.keeps.trans hk (fun k hk => hk.elim), S, T, h1.keep (fun k hS => hk.block k (h1.lt hS) id), fun r hr => ?_, h3, h4, h5, fun k hT => Nat.lt_of_lt_of_le (h6 k hT) hk.size⟩
  obtain ⟨S', a, b⟩ := h2 r hr
  exact ⟨S', r.loc a (fun k hS => hk.block k (r.lt a hS) id), b⟩
theorem OKm.new {w : World} {μ φ : List Res} (h : OKm E μ φ w) (cs : Array Value) (t : TypeId) : OKm E (cellsR w.heap.size cs t :: μ) φ (w.alloc (.cells cs t)) := by
  have h' := h.step (Keeps.alloc w (.cells cs t) _)
  obtain ⟨S, T, h1, h2, h3, h4, h5, h6⟩ := h.mem
  have hk : ∀ k, k < w.heap.size → (w.alloc (.cells cs t)).heap[k]? = w.heap[k]? := fun k hk => Below.heap_alloc w _ k hk
  refine ⟨h'.keeps, fun k => k = w.heap.size ∨ S k, T, ⟨fun k => k = w.heap.size, S, ⟨heap_alloc_new w _, fun _ => Iff.rfl⟩, h1.keep (fun k hS => hk k (h1.lt hS)), fun k e hS => ?_, fun _ => Iff.rfl⟩, fun r hr => ?_, fun k hS hT => ?_, fun k hS => ?_, h5, fun k hT => by have := h6 k hT; simp; omega⟩
  · have := h1.lt hS; omega
  · obtain ⟨S', a, b⟩ := h2 r hr
    exact ⟨S', r.loc a (fun k hS => hk k (r.lt a hS)), b⟩
  · rcases hS with e | hS
    · have := h6 k hT; omega
    · exact h3 k hS hT
  · rcases hS with e | hS
    · exact .inr (by have := h.keeps.size; omega)
    · exact h4 k hS

theorem OJ_box {t : TypeId} {x : Operand} {v : Value} (hx : oev σ x = some v) :
    OJ E (.box t x) ty σ μ φ (fun u μ' φ' => ∃ b, u = .pointer (some ⟨b, 0, none⟩) ∧ μ' = cellsR b v.cells t :: μ ∧ φ' = φ) := fun a w d pos af g K Q hs hm hK => by
  have : (execOp a.eval ⟨d, .box t x, ty, pos, af, g⟩).run E.P w = .ok (.value (.pointer (some ⟨w.heap.size, 0, none⟩))) (w.alloc (.cells v.cells t)) := by
    simp only [execOp, hs.ev hx]
    simp [Instr.box, newVar, newRow, newObj, Sem.run]
  unfold Oper.wp
  rw [this, Oper.upon_value]
  exact hK _ _ _ _ ⟨w.heap.size, rfl, rfl, rfl⟩ (hm.new _ _)
theorem OJ_alloc {t : TypeId} {v : Value} (hz : zer E.P t = some v) :
    OJ E (.alloc t) ty σ μ φ (fun u μ' φ' => ∃ b, u = .pointer (some ⟨b, 0, none⟩) ∧ μ' = cellsR b v.cells t :: μ ∧ φ' = φ) := fun a w d pos af g K Q hs hm hK => by
  have : (execOp a.eval ⟨d, .alloc t, ty, pos, af, g⟩).run E.P w = .ok (.value (.pointer (some ⟨w.heap.size, 0, none⟩))) (w.alloc (.cells v.cells t)) := by
    simp only [execOp]
    simp [Instr.alloc, run_zeroValue' hz, newVar, newRow, newObj, Sem.run]
  unfold Oper.wp
  rw [this, Oper.upon_value]
  exact hK _ _ _ _ ⟨w.heap.size, rfl, rfl, rfl⟩ (hm.new _ _)

/-- the cells with some of them written -/
def wr (cs : Array Value) (off : Nat) : List Value → Array Value
  | [] => cs
  | v :: vs => wr (cs.setIfInBounds off v) (off + 1) vs

theorem wr_size : ∀ (vs : List Value) (cs : Array Value) (off : Nat), (wr cs off vs).size = cs.size
  | [], _, _ => rfl
  | v :: vs, cs, off => by simp [wr, wr_size vs]

theorem run_storeCells_wr {P : Program} (b off : Nat) (t : TypeId) : ∀ (vs : List Value) (i : Nat) (cs : Array Value) (w : World), w.heap[b]? = some (.cells cs t (0, 0)) → off + i + vs.length ≤ cs.size → (∀ v ∈ vs, v.oneCell' = true) →
    ∃ w', (storeCells ⟨b, off, none⟩ vs i).run P w = .ok () w' ∧ w'.heap[b]? = some (.cells (wr cs (off + i) vs) t (0, 0)) ∧ (∀ k, k ≠ b → w'.heap[k]? = w.heap[k]?) ∧ w'.os = w.os ∧ w'.tape = w.tape ∧ w'.output = w.output ∧ w'.heap.size = w.heap.size
  | [], i, cs, w, h, _, _ => ⟨w, by simp [storeCells], h, fun _ _ => rfl, rfl, rfl, rfl, rfl⟩
  | v :: vs, i, cs, w, h, hl, h1 => by
    simp only [List.length_cons] at hl
    have hc : w.cell? ⟨b, off + i, none⟩ = some cs[off + i] := (cell_of_row w b (off + i) cs t (0, 0) h).trans (by rw [Array.getElem?_eq_getElem (by omega)])
    have hf := frozen_of_row w b (off + i) cs t h
    have hs : (store ⟨b, off + i, none⟩ v).run P w = .ok () (w.setCell ⟨b, off + i, none⟩ v) := by
      rw [run_store P w _ v _ (h1 v (.head _))]
      simp [stored, hc, hf]
    have hset : (w.setCell ⟨b, off + i, none⟩ v).heap[b]? = some (.cells (cs.setIfInBounds (off + i) v) t (0, 0)) := heap_setCell_same w b (off + i) cs t v h
    obtain ⟨w', e1, e2, e3, e4, e5, e6, e7⟩ := run_storeCells_wr b off t vs (i + 1) (cs.setIfInBounds (off + i) v) (w.setCell ⟨b, off + i, none⟩ v) hset (by simp; omega) (fun u hu => h1 u (.tail _ hu))
    refine ⟨w', ?_, ?_, fun k hk => (e3 k hk).trans (heap_setCell_other w _ k v hk), e4, e5, e6, by rw [e7]; simp⟩
    · simp only [storeCells, Addr.add_lit, Sem.run_bind, hs, Result.andThen_ok]
      exact e1
    · rw [e2]
      simp only [wr, Nat.add_assoc]

theorem OKm.write {w w' : World} {μ1 μ2 φ : List Res} {b : Nat} {cs cs' : Array Value} {t : TypeId} (h : OKm E (μ1 ++ cellsR b cs t :: μ2) φ w) (hb : w'.heap[b]? = some (.cells cs' t (0, 0)))
    (ho : ∀ k, k ≠ b → w'.heap[k]? = w.heap[k]?) (h1 : w'.os = w.os) (h2 : w'.tape = w.tape) (h3 : w'.output = w.output) (h4 : w'.heap.size = w.heap.size) : OKm E (μ1 ++ cellsR b cs' t :: μ2) φ w' := by
  have hp : List.Perm (μ1 ++ cellsR b cs t :: μ2) (cellsR b cs t :: (μ1 ++ μ2)) := List.perm_middle
  have hp' : List.Perm (cellsR b cs' t :: (μ1 ++ μ2)) (μ1 ++ cellsR b cs' t :: μ2) := List.perm_middle.symm
  obtain ⟨S, T, g1, g2, g3, g4, g5, g6⟩ := h.mem
  obtain ⟨S1, S2, k1, k2, k3, k4⟩ := g1.perm hp
  have hSb : S b := (k4 b).2 (.inl ((k1.2 b).2 rfl))
  refine ⟨⟨h1.trans h.keeps.os, h2.trans h.keeps.tape, h3.trans h.keeps.output, by rw [h4]; exact h.keeps.size, fun k hk hn => ?_⟩, S, T, ?_, ?_, g3, g4, g5, fun k hT => by rw [h4]; exact g6 k hT⟩
  · have hkb : k ≠ b := by
      rintro rfl
      rcases g4 k hSb with h' | h'
      · exact hn h'
      · omega
    exact (ho k hkb).trans (h.keeps.block k hk hn)
  · refine Sep.perm hp' ⟨S1, S2, ⟨hb, k1.2⟩, k2.keep (fun k hS => ho k (fun e => ?_)), k3, k4⟩
    subst e
    exact k3 k ((k1.2 k).2 rfl) hS
  · intro r hr
    obtain ⟨S', a, b'⟩ := g2 r hr
    refine ⟨S', r.loc a (fun k hS => ho k (fun e => ?_)), b'⟩
    subst e
    exact g3 k hSb (b' k hS)

theorem OJ_store {t t' : TypeId} {x y : Operand} {b off n : Nat} {v : Value} {ag : Bool} {cs : Array Value} (μ1 μ2 : List Res) (hμ : μ = μ1 ++ cellsR b cs t' :: μ2) (hx : oev σ x = some (.pointer (some ⟨b, off, none⟩))) (hy : oev σ y = some v)
    (ht : tyi E.P t = some (ag, n)) (hn : v.cells.size = n) (hb : off + n ≤ cs.size) (h1 : ∀ u ∈ v.cells.toList, u.oneCell' = true) :
    OJ E (.store t x y) ty σ μ φ (fun _ μ' φ' => μ' = μ1 ++ cellsR b (wr cs off v.cells.toList) t' :: μ2 ∧ φ' = φ) := fun a w d pos af g K Q hs hm hK => by
  subst hμ
  obtain ⟨S, T, g1, _⟩ := hm.mem
  obtain ⟨S1, ⟨h, _⟩, _⟩ := g1.mem (r := cellsR b cs t') (by simp)
  obtain ⟨w', e1, e2, e3, e4, e5, e6, e7⟩ := run_storeCells_wr (P := E.P) b off t' v.cells.toList 0 cs w h (by simp; omega) h1
  have : (execOp a.eval ⟨d, .store t x y, ty, pos, af, g⟩).run E.P w = .ok .skip w' := by
    simp only [execOp, hs.ev hx, hs.ev hy]
    simp [Instr.storeAt, Instr.sureAddr, storeVar, run_sizeOf' ht, hn, e1]
  unfold Oper.wp
  rw [this, Oper.upon_skip]
  exact hK _ _ _ _ ⟨rfl, rfl⟩ (hm.write (by simpa using e2) e3 e4 e5 e6 e7)

/-- a new slice -/
theorem OJ_make {t e : TypeId} {x y : Operand} {k k' : IntKind} {n size bytes : Nat} {z : Value} (he : elt E.P t = some (e, size, bytes)) (hz : zer E.P e = some z) (hx : oev σ x = some (.int k n)) (hy : oev σ y = some (.int k' n)) (hb : bytes * n ≤ 281474976710656) (hn : n ≤ 9223372036854775807) :
    OJ E (.makeSlice t x y) ty σ μ φ (fun u μ' φ' => ∃ b, u = .slice (some ⟨b, 0, none⟩) n n ∧ μ' = cellsR b (madeCells z.cells (n * size)) e :: μ ∧ φ' = φ) := fun a w d pos af g K Q hs hm hK => by
  unfold elt at he
  cases hu : E.P.underlying t with
  | none => rw [hu] at he; simp at he
  | some d' =>
    rw [hu] at he
    cases d' <;> simp at he
    rename_i e'
    obtain ⟨i, hi, rfl, rfl, rfl⟩ := he
    have hz' : i.zero = some z := by
      unfold zer at hz
      rw [hi] at hz
      simpa using hz
    have hb' : (i.bytes : Int) * (n : Int) ≤ 281474976710656 := by
      have : ((i.bytes * n : Nat) : Int) ≤ 281474976710656 := by omega
      rwa [Int.natCast_mul] at this
    have hr := run_make (P := E.P) w t _ i z hu hi hz' k k' n n (by omega) (by omega) hb' (by omega)
    simp only [Int.toNat_natCast] at hr
    have : (execOp a.eval ⟨d, .makeSlice t x y, ty, pos, af, g⟩).run E.P w = .ok (.value (.slice (some ⟨w.heap.size, 0, none⟩) n n)) (w.alloc (.cells (madeCells z.cells (n * i.size)) e')) := by
      simp only [execOp, hs.ev hx, hs.ev hy, Sem.run_bind, hr, Result.andThen_ok]
      rfl
    unfold Oper.wp
    rw [this, Oper.upon_value]
    exact hK _ _ _ _ ⟨w.heap.size, rfl, rfl, rfl⟩ (hm.new _ _)
end

/-! ### contracts -/
def Enter (P : Program) (f : FuncId) : Bool := match P.funcs[f]? with
  | some fn => fn.body.isSome && !(fn.name == "runtime.NumGoroutine")
  | none => false

def Tri (P : Program) (f : FuncId) (args : List Value) (μ φ : List Res) (post : Value → List Res → List Res → Prop) : Prop :=
  Enter P f = true ∧ ∀ (w : World) (S T : Nat → Prop), Sep w μ S → Fac w φ T → (∀ k, S k → ¬ T k) → (∀ k, T k → k < w.heap.size) →
    Calls P f args.toArray w fun e w' => ∃ v μ' φ', e = .returned v ∧ post v μ' φ' ∧ Keeps S w w' ∧
      ∃ S' T' : Nat → Prop, Sep w' μ' S' ∧ Fac w' φ' T' ∧ (∀ k, S' k → ¬ T' k) ∧ (∀ k, S' k → S k ∨ w.heap.size ≤ k) ∧ (∀ k, T' k → T k ∨ S k ∨ w.heap.size ≤ k) ∧ ∀ k, T' k → k < w'.heap.size

def initS : Nat → List Value → List (Nat × Value)
  | _, [] => []
  | i, v :: vs => (i, v) :: initS (i + 1) vs
theorem initS_lk : ∀ (vs : List Value) (i t : Nat) (v : Value), lk t (initS i vs) = some v → ∃ j, t = i + j ∧ vs[j]? = some v
  | [], _, _, _, h => by simp [initS, lk] at h
  | u :: us, i, t, v, h => by
    simp only [initS, lk] at h
    cases hb : Nat.beq t i with
    | true =>
      rw [hb] at h
      simp only [cond_true, Option.some.injEq] at h
      exact ⟨0, by have := Nat.eq_of_beq_eq_true hb; omega, by simp [h]⟩
    | false =>
      rw [hb] at h
      simp only [cond_false] at h
      obtain ⟨j, h1, h2⟩ := initS_lk us (i + 1) t v h
      exact ⟨j + 1, by omega, by simpa using h2⟩

/-- the ending that a contract asks -/
def Fin (P : Program) (fn : Func) (w0 : World) (S0 T0 : Nat → Prop) (post : Value → List Res → List Res → Prop) : Qt :=
  bodyPost P fn fun e w' => ∃ v μ' φ', e = .returned v ∧ post v μ' φ' ∧ Keeps S0 w0 w' ∧
      ∃ S' T' : Nat → Prop, Sep w' μ' S' ∧ Fac w' φ' T' ∧ (∀ k, S' k → ¬ T' k) ∧ (∀ k, S' k → S0 k ∨ w0.heap.size ≤ k) ∧ (∀ k, T' k → T0 k ∨ S0 k ∨ w0.heap.size ≤ k) ∧ ∀ k, T' k → k < w'.heap.size

theorem Tri_of {P : Program} {f : FuncId} {fn : Func} {c : Code} {args : List Value} {μ φ : List Res} {post : Value → List Res → List Res → Prop} (hf : P.funcs[f]? = some fn) (hb : fn.body = some c) (hE : Enter P f = true)
    {N : Nat} (hN : fn.ntmps = N) (hl : Nat.ble args.length N = true)
    (h : ∀ (w0 : World) (S0 T0 : Nat → Prop), CJ ⟨P, w0, S0, T0, N, []⟩ (Fin P fn w0 S0 T0 post) c (initS 0 args) μ φ) : Tri P f args μ φ post := by
  refine ⟨hE, fun w S T hS hT hd hlt => ?_⟩
  refine calls_of_wp hf hb ?_
  have hl' : args.length ≤ fn.ntmps := by rw [hN]; exact Nat.le_of_ble_eq_true hl
  refine h w S T _ w ⟨rfl, ?_, ?_⟩ ⟨Keeps.refl _ _, S, T, hS, hT, hd, fun k hk => .inl hk, fun k hk => .inl hk, hlt⟩
  · simp; omega
  · intro t v hv
    obtain ⟨j, rfl, hj⟩ := initS_lk args 0 t v hv
    have hjl : j < args.length := by
      rcases Nat.lt_or_ge j args.length with h' | h'
      · exact h'
      · rw [List.getElem?_eq_none h'] at hj; cases hj
    simp only [Nat.zero_add]
    rw [Array.getElem?_append_left (by simpa using hjl)]
    simpa using hj

section
variable {E : Env} {ty : TypeId} {σ : List (Nat × Value)} {μ φ : List Res}

/-- the end: what the results are, and what is handed on -/
theorem QJ_fin {fn : Func} {post : Value → List Res → List Res → Prop} {e : Exit} (he : e = .ret ∨ e = .normal) {v : Value} {μ' φ' μr : List Res} (hr : ∀ a w, Slots σ a → Hold w μ → Hold w φ → (results fn a.tmps).run E.P w = .ok v w) (hp : List.Perm μ (μ' ++ μr)) (hf : ∀ r, r ∈ φ' → r ∈ φ)
    (hpost : post v μ' φ') (hds : E.ds = [] := by rfl) : QJ E (Fin E.P fn E.w0 E.S0 E.T0 post) e σ μ φ := fun a w ha hm => by
  have hw := hm.weak hp hf
  obtain ⟨S, T, h1, h2, h3, h4, h5, h6⟩ := hw.mem
  have : bodyPost E.P fn (fun e w' => ∃ v μ' φ', e = .returned v ∧ post v μ' φ' ∧ Keeps E.S0 E.w0 w' ∧
      ∃ S' T' : Nat → Prop, Sep w' μ' S' ∧ Fac w' φ' T' ∧ (∀ k, S' k → ¬ T' k) ∧ (∀ k, S' k → E.S0 k ∨ E.w0.heap.size ≤ k) ∧ (∀ k, T' k → E.T0 k ∨ E.S0 k ∨ E.w0.heap.size ≤ k) ∧ ∀ k, T' k → k < w'.heap.size) .ret a w :=
    ⟨ha.defs.trans hds, v, hr a w ha.slots hm.hold.1 hm.hold.2, v, μ', φ', rfl, hpost, hm.keeps, S, T, h1, h2, h3, h4, h5, h6⟩
  rcases he with rfl | rfl <;> exact this

theorem res_tmp {fn : Func} {P : Program} {t : Tmp} {v : Value} (hfn : fn.results = #[.tmp t]) (hv : lk t σ = some v) : ∀ a w, Slots σ a → Hold w μ → Hold w φ → (results fn a.tmps).run P w = .ok v w := fun a w hs _ _ => by
  rw [results_tmp hfn]
  have := hs t v hv
  simp [this]
theorem res_tmp2 {fn : Func} {P : Program} {t u : Tmp} {v v' : Value} (hfn : fn.results = #[.tmp t, .tmp u]) (hv : lk t σ = some v) (hv' : lk u σ = some v') : ∀ a w, Slots σ a → Hold w μ → Hold w φ → (results fn a.tmps).run P w = .ok (.tuple #[v, v']) w := fun a w hs _ _ => by
  rw [results_tmp2 hfn]
  have h1 := hs t v hv
  have h2 := hs u v' hv'
  simp [h1, h2]
theorem res_none {fn : Func} {P : Program} (hfn : fn.results = #[]) : ∀ a w, Slots σ a → Hold w μ → Hold w φ → (results fn a.tmps).run P w = .ok (.tuple #[]) w := fun a w _ _ _ => by
  rw [results_none hfn]
/-- one result, in a variable of its own (a struct) -/
theorem res_cell {fn : Func} {P : Program} {t : Tmp} {b n : Nat} {ct ct' : TypeId} {vs : List Value} (hfn : fn.results = #[.cell t ct]) (hv : lk t σ = some (.pointer (some ⟨b, 0, none⟩))) (hm : cellsR b vs.toArray ct' ∈ μ) (ht : tyi P ct = some (true, n)) (hl : vs.length = n) :
    ∀ a w, Slots σ a → Hold w μ → Hold w φ → (results fn a.tmps).run P w = .ok (.agg vs.toArray) w := fun a w hs hmu _ => by
  obtain ⟨S, h, _⟩ := hmu _ hm
  have h1 := hs t _ hv
  have := run_loadVarN (P := P) (w := w) (a := ⟨b, 0, none⟩) ht hl (fun j v hj => by
    rw [Addr.add_lit, cell_of_row w b (0 + j) vs.toArray ct' (0, 0) h]
    simpa using hj)
  simp [results, hfn, h1, asAddr, this]
theorem res_cell_tmp {fn : Func} {P : Program} {t u : Tmp} {b n : Nat} {ct ct' : TypeId} {vs : List Value} {v' : Value} (hfn : fn.results = #[.cell t ct, .tmp u]) (hv : lk t σ = some (.pointer (some ⟨b, 0, none⟩))) (hm : cellsR b vs.toArray ct' ∈ μ) (ht : tyi P ct = some (true, n)) (hl : vs.length = n) (hv' : lk u σ = some v') :
    ∀ a w, Slots σ a → Hold w μ → Hold w φ → (results fn a.tmps).run P w = .ok (.tuple #[.agg vs.toArray, v']) w := fun a w hs hmu _ => by
  obtain ⟨S, h, _⟩ := hmu _ hm
  have h1 := hs t _ hv
  have h2 := hs u _ hv'
  have := run_loadVarN (P := P) (w := w) (a := ⟨b, 0, none⟩) ht hl (fun j v hj => by
    rw [Addr.add_lit, cell_of_row w b (0 + j) vs.toArray ct' (0, 0) h]
    simpa using hj)
  simp [results, hfn, h1, h2, asAddr, this]

theorem run_enter {P : Program} {f : FuncId} (h : Enter P f = true) (args : Array Value) (w : World) : (callFunc f args).run P w = .ok (.enter f args) w := by
  unfold Enter at h
  cases hf : P.funcs[f]? with
  | none => rw [hf] at h; simp at h
  | some fn =>
    rw [hf] at h
    simp only [Bool.and_eq_true, Bool.not_eq_true'] at h
    have hb : fn.body.isNone = false := by
      cases hbb : fn.body with
      | none => rw [hbb] at h; simp at h
      | some _ => rfl
    simp only [callFunc, Sem.run_bind, run_program, Result.andThen_ok, hf, h.2, hb, Bool.false_eq_true, if_false, Sem.run_pure]

/-- a call, by the callee's contract: some of the own resources are lent -/
theorem OJ_call {x : Operand} {xs : Array Operand} {at_ : Array TypeId} {f : FuncId} {cap : Array Value} {vs : List Value} {μ1 μr φ1 : List Res} {post : Value → List Res → List Res → Prop} (hx : oev σ x = some (.func (.func f) #[] cap)) (hxs : oevs σ xs.toList = some vs)
    (ht : Tri E.P f (vs ++ cap.toList) μ1 φ1 post) (hμ : List.Perm μ (μ1 ++ μr)) (hφ : ∀ r, r ∈ φ1 → r ∈ φ) :
    OJ E (.call { callee := .value x, args := xs, argTypes := at_ }) ty σ μ φ (fun v μ' φ' => ∃ μ1' φ1', post v μ1' φ1' ∧ μ' = μ1' ++ μr ∧ φ' = φ1' ++ φ) := fun a w d pos af g K Q hs hm hK => by
  obtain ⟨hent, hcalls⟩ := ht
  have hargs : (xs.map a.eval) ++ cap = (vs ++ cap.toList).toArray := by
    have := hs.evs hxs
    apply Array.toList_inj.1
    simp [this]
  have hrun : (execOp a.eval ⟨d, .call { callee := .value x, args := xs, argTypes := at_ }, ty, pos, af, g⟩).run E.P w = .ok (.enter f (vs ++ cap.toList).toArray) w := by
    simp only [execOp, resolve, hs.ev hx, Deferred.ofValue, Sem.run_bind, Sem.run_pure, Result.andThen_ok, invoke]
    have e : (#[] ++ Array.map a.eval xs ++ cap) = (vs ++ cap.toList).toArray := by rw [← hargs]; simp
    rw [e, run_enter hent]
  unfold Oper.wp
  rw [hrun, Oper.upon_enter]
  obtain ⟨S, T, h1, h2, h3, h4, h5, h6⟩ := hm.mem
  obtain ⟨S1, S2, g1, g2, gd, gs⟩ := (h1.perm hμ).split
  have hc := hcalls w S1 T g1 (fun r hr => h2 r (hφ r hr)) (fun k hk => h3 k ((gs k).2 (.inl hk))) h6
  refine hc.mono ?_
  rintro e w' ⟨v, μ', φ', rfl, hpost, hkeep, S', T', k1, k2, k3, k4, k5, k6⟩
  refine hK v (μ' ++ μr) (φ' ++ φ) w' ⟨μ', φ', hpost, rfl, rfl⟩ ?_
  have hS2lt : ∀ k, S2 k → k < w.heap.size := fun k hk => g2.lt hk
  have hfr : ∀ k, S2 k → w'.heap[k]? = w.heap[k]? := fun k hk => hkeep.block k (hS2lt k hk) (fun hh => gd k hh hk)
  have hd2 : ∀ k, S' k → ¬ S2 k := fun k hk hk2 => by
    rcases k4 k hk with h' | h'
    · exact gd k h' hk2
    · have := hS2lt k hk2; omega
  refine ⟨hm.keeps.trans hkeep (fun k hk => h4 k ((gs k).2 (.inl hk))), fun k => S' k ∨ S2 k, fun k => T' k ∨ T k, k1.app (g2.keep hfr) hd2, ?_, ?_, ?_, ?_, ?_⟩
  · intro r hr
    rcases List.mem_append.1 hr with hr | hr
    · obtain ⟨S3, a1, a2⟩ := k2 r hr
      exact ⟨S3, a1, fun k hk => .inl (a2 k hk)⟩
    · obtain ⟨S3, a1, a2⟩ := h2 r hr
      exact ⟨S3, r.loc a1 (fun k hk => hkeep.block k (r.lt a1 hk) (fun hh => h3 k ((gs k).2 (.inl hh)) (a2 k hk))), fun k hk => .inr (a2 k hk)⟩
  · rintro k (hS | hS) (hT | hT)
    · exact k3 k hS hT
    · rcases k4 k hS with h' | h'
      · exact h3 k ((gs k).2 (.inl h')) hT
      · have := h6 k hT; omega
    · rcases k5 k hT with h' | h' | h'
      · exact h3 k ((gs k).2 (.inr hS)) h'
      · exact gd k h' hS
      · have := hS2lt k hS; omega
    · exact h3 k ((gs k).2 (.inr hS)) hT
  · rintro k (hS | hS)
    · rcases k4 k hS with h' | h'
      · exact h4 k ((gs k).2 (.inl h'))
      · exact .inr (by have := hm.keeps.size; omega)
    · exact h4 k ((gs k).2 (.inr hS))
  · rintro k (hT | hT)
    · rcases k5 k hT with h' | h' | h'
      · exact h5 k h'
      · exact .inr (h4 k ((gs k).2 (.inl h')))
      · exact .inr (.inr (by have := hm.keeps.size; omega))
    · exact h5 k hT
  · rintro k (hT | hT)
    · exact k6 k hT
    · exact Nat.lt_of_lt_of_le (h6 k hT) hkeep.size

/-- a call that the model answers itself -/
theorem YJ_ext {x : Operand} {xs : Array Operand} {at_ : Array TypeId} {f : FuncId} {vs : List Value} {v : Value} (hx : oev σ x = some (.func (.func f) #[] #[])) (hxs : oevs σ xs.toList = some vs)
    (he : ∀ w, (callFunc f vs.toArray).run E.P w = .ok (.value v) w) : YJ E (.call { callee := .value x, args := xs, argTypes := at_ }) ty σ μ φ v := fun a w d pos af g hs _ _ => by
  have hargs : xs.map a.eval = vs.toArray := by
    have := hs.evs hxs
    apply Array.toList_inj.1
    simp [this]
  simp only [execOp, resolve, hs.ev hx, Deferred.ofValue, Sem.run_bind, Sem.run_pure, Result.andThen_ok, invoke]
  have e : (#[] ++ Array.map a.eval xs ++ #[]) = vs.toArray := by rw [← hargs]; simp
  rw [e, he]

/-! ### rules as the printed walks use them -/
/-- what a contract says of a result: one of a family -/
def RetX {ι : Type} (C : ι → Prop) (f : ι → Value) (m g : ι → List Res) : Value → List Res → List Res → Prop := fun v μ φ => ∃ x, C x ∧ v = f x ∧ μ = m x ∧ φ = g x
def Ret0 (v0 : Value) : Value → List Res → List Res → Prop := fun v μ φ => v = v0 ∧ μ = [] ∧ φ = []

variable {Q : Qt} {ops : Array Oper} {rest : List Oper} {d : Tmp} {pos : String} {af : Array Edge} {g : Option (Nat × Bool)} {ml pl : List Res} {fuel : Nat} {listed : Array Bool}

theorem LJ_box {t : TypeId} {x : Operand} {v : Value} {cs : Array Value} (hg : grd ops σ g = some true) (hd : Nat.blt d E.N = true) (hx : oev σ x = some v) (hc : v.cells = cs)
    (h : ∀ b, LJ E Q ops rest ((d, .pointer (some ⟨b, 0, none⟩)) :: σ) (cellsR b cs t :: μ) φ) : LJ E Q ops (⟨some d, .box t x, ty, pos, af, g⟩ :: rest) σ μ φ :=
  LJ_o hg hd (OJ_box hx) (by rintro _ _ _ ⟨b, rfl, rfl, rfl⟩; subst hc; exact h b)
theorem LJ_alloc {t : TypeId} {v : Value} {cs : Array Value} (hg : grd ops σ g = some true) (hd : Nat.blt d E.N = true) (hz : zer E.P t = some v) (hc : v.cells = cs)
    (h : ∀ b, LJ E Q ops rest ((d, .pointer (some ⟨b, 0, none⟩)) :: σ) (cellsR b cs t :: μ) φ) : LJ E Q ops (⟨some d, .alloc t, ty, pos, af, g⟩ :: rest) σ μ φ :=
  LJ_o hg hd (OJ_alloc hz) (by rintro _ _ _ ⟨b, rfl, rfl, rfl⟩; subst hc; exact h b)
theorem LJ_make {t e : TypeId} {x y : Operand} {k k' : IntKind} {n size bytes : Nat} {z : Value} {ni : Int} (hg : grd ops σ g = some true) (hd : Nat.blt d E.N = true) (he : elt E.P t = some (e, size, bytes)) (hz : zer E.P e = some z)
    (hx : oev σ x = some (.int k ni)) (hy : oev σ y = some (.int k' ni)) (hni : ni = (n : Int)) (hb : bytes * n ≤ 281474976710656) (hn : n ≤ 9223372036854775807)
    (h : ∀ b, LJ E Q ops rest ((d, .slice (some ⟨b, 0, none⟩) n n) :: σ) (cellsR b (madeCells z.cells (n * size)) e :: μ) φ) : LJ E Q ops (⟨some d, .makeSlice t x y, ty, pos, af, g⟩ :: rest) σ μ φ := by
  subst hni
  exact LJ_o hg hd (OJ_make he hz hx hy hb hn) (by rintro _ _ _ ⟨b, rfl, rfl, rfl⟩; exact h b)

theorem OJ_storeK {t t' : TypeId} {x y : Operand} {b off n : Nat} {v : Value} {ag : Bool} {cs cs' : Array Value} {μ' : List Res} (k : Nat) (hk : μ[k]? = some (cellsR b cs t')) (hx : oev σ x = some (.pointer (some ⟨b, off, none⟩))) (hy : oev σ y = some v)
    (ht : tyi E.P t = some (ag, n)) (hn : v.cells.size = n) (hb : off + n ≤ cs.size) (h1 : v.cells.toList.all (·.oneCell') = true) (hw : wr cs off v.cells.toList = cs') (hμ' : μ.set k (cellsR b cs' t') = μ') :
    OJ E (.store t x y) ty σ μ φ (fun _ μ'' φ' => μ'' = μ' ∧ φ' = φ) := by
  have hlt : k < μ.length := by
    rcases Nat.lt_or_ge k μ.length with h' | h'
    · exact h'
    · rw [List.getElem?_eq_none h'] at hk; cases hk
  have e : μ = μ.take k ++ cellsR b cs t' :: μ.drop (k + 1) := by
    have hk' : μ[k] = cellsR b cs t' := by rw [List.getElem?_eq_getElem hlt] at hk; exact Option.some.inj hk
    rw [← hk', List.getElem_cons_drop, List.take_append_drop]
  have e2 : μ' = μ.take k ++ cellsR b cs' t' :: μ.drop (k + 1) := by
    rw [← hμ', List.set_eq_take_append_cons_drop, if_pos hlt]
  subst hw
  rw [e2]
  exact OJ_store (μ.take k) (μ.drop (k + 1)) e hx hy ht hn hb (List.all_eq_true.1 h1)
theorem LJ_store {t t' : TypeId} {x y : Operand} {b off n : Nat} {v : Value} {ag : Bool} {cs cs' : Array Value} {μ' : List Res} (k : Nat) (hg : grd ops σ g = some true) (hk : μ[k]? = some (cellsR b cs t')) (hx : oev σ x = some (.pointer (some ⟨b, off, none⟩))) (hy : oev σ y = some v)
    (ht : tyi E.P t = some (ag, n)) (hn : v.cells.size = n) (hb : off + n ≤ cs.size) (h1 : v.cells.toList.all (·.oneCell') = true) (hw : wr cs off v.cells.toList = cs') (hμ' : μ.set k (cellsR b cs' t') = μ')
    (h : LJ E Q ops rest σ μ' φ) : LJ E Q ops (⟨none, .store t x y, ty, pos, af, g⟩ :: rest) σ μ φ :=
  LJ_o0 hg (OJ_storeK k hk hx hy ht hn hb h1 hw hμ') (by rintro _ _ _ ⟨rfl, rfl⟩; exact h)
theorem AJ_store {t t' : TypeId} {x y : Operand} {b off n : Nat} {v : Value} {ag : Bool} {cs cs' : Array Value} {μ' : List Res} (i k : Nat) (hi : ops[i]? = some ⟨none, .store t x y, ty, pos, af, g⟩)
    (hr : Region.ready .any ops listed = [i]) (hg : grd ops σ g = some true) (hk : μ[k]? = some (cellsR b cs t')) (hx : oev σ x = some (.pointer (some ⟨b, off, none⟩))) (hy : oev σ y = some v)
    (ht : tyi E.P t = some (ag, n)) (hn : v.cells.size = n) (hb : off + n ≤ cs.size) (h1 : v.cells.toList.all (·.oneCell') = true) (hw : wr cs off v.cells.toList = cs') (hμ' : μ.set k (cellsR b cs' t') = μ')
    (hml : (∀ r, r ∈ ml → r ∈ μ) → ∀ r, r ∈ ml → r ∈ μ') (h : AJ E Q ops ml pl fuel (listed.setIfInBounds i true) σ μ' φ) : AJ E Q ops ml pl (fuel + 1) listed σ μ φ :=
  AJ_o0 i hi hr hg (OJ_storeK k hk hx hy ht hn hb h1 hw hμ') (by rintro _ _ _ ⟨rfl, rfl⟩; exact ⟨hml, fun _ _ h => h, h⟩)

theorem LJ_call0 {x : Operand} {xs : Array Operand} {at_ : Array TypeId} {f : FuncId} {cap : Array Value} {vs vs' : List Value} {φ1 : List Res} {v0 : Value} (hg : grd ops σ g = some true) (hd : Nat.blt d E.N = true)
    (hx : oev σ x = some (.func (.func f) #[] cap)) (hxs : oevs σ xs.toList = some vs) (hv : vs ++ cap.toList = vs') (ht : Tri E.P f vs' [] φ1 (Ret0 v0)) (hφ : ∀ r, r ∈ φ1 → r ∈ φ)
    (h : LJ E Q ops rest ((d, v0) :: σ) μ φ) : LJ E Q ops (⟨some d, .call { callee := .value x, args := xs, argTypes := at_ }, ty, pos, af, g⟩ :: rest) σ μ φ := by
  subst hv
  exact LJ_o hg hd (OJ_call (μr := μ) hx hxs ht (List.Perm.refl _) hφ) (by rintro _ _ _ ⟨_, _, ⟨rfl, rfl, rfl⟩, rfl, rfl⟩; exact h)
theorem AJ_call0 {x : Operand} {xs : Array Operand} {at_ : Array TypeId} {f : FuncId} {cap : Array Value} {vs vs' : List Value} {φ1 : List Res} {v0 : Value} (i : Nat) (hi : ops[i]? = some ⟨some d, .call { callee := .value x, args := xs, argTypes := at_ }, ty, pos, af, g⟩)
    (hr : Region.ready .any ops listed = [i]) (hg : grd ops σ g = some true) (hd : Nat.blt d E.N = true)
    (hx : oev σ x = some (.func (.func f) #[] cap)) (hxs : oevs σ xs.toList = some vs) (hv : vs ++ cap.toList = vs') (ht : Tri E.P f vs' [] φ1 (Ret0 v0)) (hφ : ∀ r, r ∈ φ1 → r ∈ φ)
    (h : AJ E Q ops ml pl fuel (listed.setIfInBounds i true) ((d, v0) :: σ) μ φ) : AJ E Q ops ml pl (fuel + 1) listed σ μ φ := by
  subst hv
  exact AJ_o i hi hr hg hd (OJ_call (μr := μ) hx hxs ht (List.Perm.refl _) hφ) (by rintro _ _ _ ⟨_, _, ⟨rfl, rfl, rfl⟩, rfl, rfl⟩; exact ⟨fun _ _ h => h, fun _ _ h => h, h⟩)
theorem LJ_callX {ι : Type} {C : ι → Prop} {fv : ι → Value} {gf : ι → List Res} {x : Operand} {xs : Array Operand} {at_ : Array TypeId} {f : FuncId} {cap : Array Value} {vs vs' : List Value} {φ1 : List Res} (hg : grd ops σ g = some true) (hd : Nat.blt d E.N = true)
    (hx : oev σ x = some (.func (.func f) #[] cap)) (hxs : oevs σ xs.toList = some vs) (hv : vs ++ cap.toList = vs') (ht : Tri E.P f vs' [] φ1 (RetX C fv (fun _ => []) gf)) (hφ : ∀ r, r ∈ φ1 → r ∈ φ)
    (h : ∀ x, C x → LJ E Q ops rest ((d, fv x) :: σ) μ (gf x ++ φ)) : LJ E Q ops (⟨some d, .call { callee := .value x, args := xs, argTypes := at_ }, ty, pos, af, g⟩ :: rest) σ μ φ := by
  subst hv
  exact LJ_o hg hd (OJ_call (μr := μ) hx hxs ht (List.Perm.refl _) hφ) (by rintro _ _ _ ⟨_, _, ⟨x, hc, rfl, rfl, rfl⟩, rfl, rfl⟩; exact h x hc)
theorem AJ_callX {ι : Type} {C : ι → Prop} {fv : ι → Value} {gf : ι → List Res} {x : Operand} {xs : Array Operand} {at_ : Array TypeId} {f : FuncId} {cap : Array Value} {vs vs' : List Value} {φ1 : List Res} (i : Nat) (hi : ops[i]? = some ⟨some d, .call { callee := .value x, args := xs, argTypes := at_ }, ty, pos, af, g⟩)
    (hr : Region.ready .any ops listed = [i]) (hg : grd ops σ g = some true) (hd : Nat.blt d E.N = true)
    (hx : oev σ x = some (.func (.func f) #[] cap)) (hxs : oevs σ xs.toList = some vs) (hv : vs ++ cap.toList = vs') (ht : Tri E.P f vs' [] φ1 (RetX C fv (fun _ => []) gf)) (hφ : ∀ r, r ∈ φ1 → r ∈ φ)
    (h : ∀ x, C x → AJ E Q ops ml pl fuel (listed.setIfInBounds i true) ((d, fv x) :: σ) μ (gf x ++ φ)) : AJ E Q ops ml pl (fuel + 1) listed σ μ φ := by
  subst hv
  exact AJ_o i hi hr hg hd (OJ_call (μr := μ) hx hxs ht (List.Perm.refl _) hφ) (by rintro _ _ _ ⟨_, _, ⟨x, hc, rfl, rfl, rfl⟩, rfl, rfl⟩; exact ⟨fun _ _ h => h, fun _ _ h => List.mem_append_right _ h, h x hc⟩)

theorem Tri_of_calls {P : Program} {f : FuncId} {args : List Value} {v : Value} (hE : Enter P f = true) (h : ∀ w, Calls P f args.toArray w fun e w' => e = .returned v ∧ w' = w) : Tri P f args [] [] (Ret0 v) :=
  ⟨hE, fun w S T hS _ hd hlt => (h w).mono fun _ _ ⟨he, hw⟩ => by
    subst hw
    exact ⟨v, [], [], he, ⟨rfl, rfl, rfl⟩, Keeps.refl _ _, S, T, hS, (fun r hr => nomatch hr), hd, fun k hk => Or.inl hk, fun k hk => Or.inl hk, hlt⟩⟩
/-- a contract in other words -/
theorem Tri.conv {P : Program} {f : FuncId} {args : List Value} {μ φ : List Res} {post post' : Value → List Res → List Res → Prop} (h : Tri P f args μ φ post) (hp : ∀ v μ φ, post v μ φ → post' v μ φ) : Tri P f args μ φ post' :=
  ⟨h.1, fun w S T h1 h2 h3 h4 => (h.2 w S T h1 h2 h3 h4).mono fun _ _ ⟨v, μ', φ', he, hq, r⟩ => ⟨v, μ', φ', he, hp _ _ _ hq, r⟩⟩

theorem iop_add {a b : Int} (h : -9223372036854775808 ≤ a + b ∧ a + b ≤ 9223372036854775807) : iop .add .i64 a b = some (.int .i64 (a + b)) := by
  simp only [iop, IntKind.wrap_i64]; congr 2; omega
theorem iop_sub {a b : Int} (h : -9223372036854775808 ≤ a - b ∧ a - b ≤ 9223372036854775807) : iop .sub .i64 a b = some (.int .i64 (a - b)) := by
  simp only [iop, IntKind.wrap_i64]; congr 2; omega
theorem iop_mul {a b : Int} (h : -9223372036854775808 ≤ a * b ∧ a * b ≤ 9223372036854775807) : iop .mul .i64 a b = some (.int .i64 (a * b)) := by
  simp only [iop, IntKind.wrap_i64]; congr 2; generalize a * b = c at *; omega

/-! ### literals of structs whose fields are one cell each, and of arrays of one-cell elements -/
def lay1 (P : Program) (t : TypeId) : Option (List Value) :=
  match P.info? t, P.underlying t with
  | some it, some (.struct fs) => match it.zero, fs.toList.mapM (fun f => (P.info? f.type).map fun i => (f.offset, i.size)) with
    | some z, some places => if places = (List.range places.length).map (fun i => (i, 1)) ∧ z.cells.size = places.length then some z.cells.toList else none
    | _, _ => none
  | some it, some (.array _ e) => match it.zero, P.info? e with
    | some z, some ie => if ie.size = 1 then some z.cells.toList else none
    | _, _ => none
  | _, _ => none
def setAll (cs : List Value) : List (Nat × Value) → List Value
  | [] => cs
  | (i, v) :: r => setAll (cs.set i v) r
def pvOk (n : Nat) (pvs : List (Nat × Value)) : Bool := pvs.all fun p => Nat.blt p.1 n && p.2.oneCell'
theorem fill_setAll (place : Nat → Option (Nat × Nat)) : ∀ (pvs : List (Nat × Value)) (cs : Array Value), (∀ i, i < cs.size → place i = some (i, 1)) → pvOk cs.size pvs = true →
    Instr.fill place cs pvs = some (setAll cs.toList pvs).toArray
  | [], cs, _, _ => by simp [Instr.fill, setAll]
  | (i, v) :: r, cs, hpl, hok => by
    simp only [pvOk, List.all_cons, Bool.and_eq_true] at hok
    obtain ⟨⟨h1, h2⟩, h3⟩ := hok
    have hi : i < cs.size := Nat.le_of_ble_eq_true h1
    have hv : v.cells = #[v] := by cases v <;> first | rfl | (simp [Value.oneCell'] at h2)
    have ih := fill_setAll place r (cs.setIfInBounds i v) (by simpa using hpl) (by simpa [pvOk] using h3)
    simp only [Instr.fill, hpl i hi, hv]
    have hc : ¬ ((#[v] : Array Value).size ≠ 1 || i + (#[v] : Array Value).size > cs.size) = true := by simp; omega
    rw [if_neg hc]
    have hz : (#[v] : Array Value).zipIdx.foldl (fun cs (x : Value × Nat) => cs.setIfInBounds (i + x.2) x.1) cs = cs.setIfInBounds i v := by simp
    rw [show (fun (cs : Array Value) (x : Value × Nat) => match x with | (c, j) => cs.setIfInBounds (i + j) c) = (fun cs (x : Value × Nat) => cs.setIfInBounds (i + x.2) x.1) from rfl, hz, ih]
    simp [setAll]
theorem built_of_lay1 {P : Program} {t : TypeId} {zs : List Value} {pvs : List (Nat × Value)} (hl : lay1 P t = some zs) (hp : pvOk zs.length pvs = true) : P.built t pvs = some (setAll zs pvs).toArray := by
  unfold lay1 at hl
  unfold Program.built
  cases hi : P.info? t with
  | none => rw [hi] at hl; simp at hl
  | some it =>
    cases hu : P.underlying t with
    | none => rw [hi, hu] at hl; simp at hl
    | some d =>
      rw [hi, hu] at hl
      cases d <;> simp only [reduceCtorEq] at hl
      case struct fs =>
        dsimp only at hl ⊢
        cases hz : it.zero with
        | none => rw [hz] at hl; simp at hl
        | some z =>
          rw [hz] at hl
          cases hm : fs.toList.mapM (fun f => (P.info? f.type).map fun i => (f.offset, i.size)) with
          | none => rw [hm] at hl; simp at hl
          | some places =>
            rw [hm] at hl
            dsimp only at hl ⊢
            by_cases hc : places = (List.range places.length).map (fun i => (i, 1)) ∧ z.cells.size = places.length
            · rw [if_pos hc] at hl
              simp only [Option.some.injEq] at hl
              subst hl
              rw [fill_setAll _ pvs z.cells ?_ (by simpa using hp)]
              intro i hi
              rw [hc.2] at hi
              rw [List.getElem?_toArray, hc.1]
              simp [hi]
            · rw [if_neg hc] at hl; simp at hl
      case array n e =>
        dsimp only at hl ⊢
        cases hz : it.zero with
        | none => rw [hz] at hl; simp at hl
        | some z =>
          rw [hz] at hl
          cases hm : P.info? e with
          | none => rw [hm] at hl; simp at hl
          | some ie =>
            rw [hm] at hl
            dsimp only at hl ⊢
            by_cases hc : ie.size = 1
            · rw [if_pos hc] at hl
              simp only [Option.some.injEq] at hl
              subst hl
              rw [fill_setAll _ pvs z.cells ?_ (by simpa using hp)]
              intro i hi
              simp [hc]
            · rw [if_neg hc] at hl; simp at hl

def oevP (σ : List (Nat × Value)) : List (Nat × Operand) → Option (List (Nat × Value))
  | [] => some []
  | (i, x) :: xs => match oev σ x, oevP σ xs with
    | some v, some vs => some ((i, v) :: vs)
    | _, _ => none
theorem Slots.evP {σ : List (Nat × Value)} {a : Act} (h : Slots σ a) : ∀ {xs : List (Nat × Operand)} {vs : List (Nat × Value)}, oevP σ xs = some vs → xs.map (fun p => (p.1, a.eval p.2)) = vs
  | [], vs, hx => by simpa [oevP] using hx
  | (i, x) :: xs, vs, hx => by
    simp only [oevP] at hx
    cases h1 : oev σ x with
    | none => rw [h1] at hx; simp at hx
    | some v =>
      cases h2 : oevP σ xs with
      | none => rw [h1, h2] at hx; simp at hx
      | some us =>
        rw [h1, h2] at hx
        simp only [Option.some.injEq] at hx
        subst hx
        simp [h.ev h1, h.evP h2]
theorem YJ_build1 {t : TypeId} {parts : Array (Nat × Operand)} {pvs : List (Nat × Value)} {zs cs : List Value} (hl : lay1 E.P t = some zs) (hp : oevP σ parts.toList = some pvs) (hok : pvOk zs.length pvs = true) (hc : setAll zs pvs = cs) :
    YJ E (.build t parts) ty σ μ φ (.agg cs.toArray) := by
  subst hc
  refine YJ_build (pvs := pvs) (fun a hs => ?_) (built_of_lay1 hl hok)
  have := hs.evP hp
  simpa using this

/-! ### for the printed walks -/
def selR : List Nat → List Res → List Res
  | [], _ => []
  | i :: is, μ => match μ[i]? with
    | some r => r :: selR is μ
    | none => selR is μ
theorem selR_sub : ∀ (is : List Nat) (μ : List Res), ∀ r, r ∈ selR is μ → r ∈ μ
  | [], _, r, h => by simp [selR] at h
  | i :: is, μ, r, h => by
    unfold selR at h
    cases hi : μ[i]? with
    | none => rw [hi] at h; exact selR_sub is μ r h
    | some r' =>
      rw [hi] at h
      rcases List.mem_cons.1 h with rfl | h
      · exact List.mem_of_getElem? hi
      · exact selR_sub is μ r h
def AllIn (μ : List Res) : List Res → Prop
  | [] => True
  | r :: rs => r ∈ μ ∧ AllIn μ rs
theorem AllIn.sub {μ : List Res} : ∀ {ml : List Res}, AllIn μ ml → ∀ r, r ∈ ml → r ∈ μ
  | _ :: _, h, _, .head _ => h.1
  | _ :: _, h, _, .tail _ hm => AllIn.sub h.2 _ hm
theorem CJ_condT2 {c : Operand} {x y : Code} {b : Bool} (hc : oev σ c = some (.bool b)) (hb : b = true) (h : CJ E Q x σ μ φ) : CJ E Q (.cond c x y) σ μ φ := by
  subst hb; exact CJ_condT hc h
theorem CJ_condF2 {c : Operand} {x y : Code} {b : Bool} (hc : oev σ c = some (.bool b)) (hb : b = false) (h : CJ E Q y σ μ φ) : CJ E Q (.cond c x y) σ μ φ := by
  subst hb; exact CJ_condF hc h
theorem YJ_and32 {xt yt : TypeId} {x y : Operand} {a : Int} (hx : oev σ x = some (.int .u64 a)) (hy : oev σ y = some (.int .u64 4294967295)) (h0 : 0 ≤ a) (h1 : a < 18446744073709551616) :
    YJ E (.binOp .and xt x y yt) ty σ μ φ (.int .u64 (a % 4294967296)) := fun ac w _ _ _ _ hs _ _ => by
  simp only [execOp, hs.ev hx, hs.ev hy, eqGuard_and, binOp_and]
  have : (Op.intBits .and .u64 a 4294967295) = pure (.int .u64 (a % 4294967296)) := by
    unfold Op.intBits
    show (pure (Value.int .u64 (IntKind.u64.wrap ((BitVec.ofInt 64 a &&& BitVec.ofInt 64 4294967295 : BitVec 64).toNat : Int))) : Sem Value) = _
    have e : (BitVec.ofInt 64 a &&& BitVec.ofInt 64 4294967295 : BitVec 64).toNat = (a % 4294967296).toNat := by
      rw [BitVec.toNat_and]
      have h2 : (BitVec.ofInt 64 4294967295 : BitVec 64).toNat = 2 ^ 32 - 1 := by decide
      rw [h2, Nat.and_two_pow_sub_one_eq_mod, BitVec.toNat_ofInt]
      omega
    rw [e, IntKind.wrap_u64]
    congr 2
    omega
  simp only [this]
  simp
theorem OKm.new' {w : World} {μ φ : List Res} (h : OKm E μ φ w) (cs : Array Value) (t : TypeId) : OKm E (cellsR w.heap.size cs t :: μ) φ (w.alloc (.cells cs t)) := h.new cs t
/-- a slice written out: elements of one cell -/
theorem OJ_buildSlice {t e : TypeId} {len bytes : Nat} {z : Value} {parts : Array (Nat × Operand)} {pvs : List (Nat × Value)} {cs : List Value} (he : elt E.P t = some (e, 1, bytes)) (hz : zer E.P e = some z) (hz1 : z.oneCell' = true) (hl : len ≤ 16777216)
    (hp : oevP σ parts.toList = some pvs) (hok : pvOk len pvs = true) (hc : setAll (List.replicate len z) pvs = cs) :
    OJ E (.buildSlice t len parts) ty σ μ φ (fun u μ' φ' => ∃ b, u = .slice (some ⟨b, 0, none⟩) len len ∧ μ' = cellsR b cs.toArray e :: μ ∧ φ' = φ) := fun a w d pos af g K Q hs hm hK => by
  subst hc
  unfold elt at he
  cases hu : E.P.underlying t with
  | none => rw [hu] at he; simp at he
  | some d' =>
    rw [hu] at he
    cases d' <;> simp at he
    rename_i e'
    obtain ⟨i, hi, rfl, hi1, rfl⟩ := he
    have hz' : (zeroValue e').run E.P w = .ok z w := run_zeroValue' hz w
    have hsz : (sizeOf e').run E.P w = .ok 1 w := by simp [sizeOf, typeInfo, hi, hi1]
    have hcell : z.cells = #[z] := by cases z <;> first | rfl | (simp [Value.oneCell'] at hz1)
    have hparts : (parts.map fun (p : Nat × Operand) => (p.1, a.eval p.2)).toList = pvs := by
      have := hs.evP hp
      simpa using this
    have hfill := fill_setAll (fun i => some (i * 1, 1)) pvs (Array.replicate len z) (by simp) (by simpa using hok)
    have hzero : ((Array.range (len * 1)).map (#[z][· % (#[z] : Array Value).size]!)) = Array.replicate len z := by
      apply Array.ext
      · simp
      · intro j h1 h2
        simp [Nat.mod_one]
    have : (execOp a.eval ⟨d, .buildSlice t len parts, ty, pos, af, g⟩).run E.P w = .ok (.value (.slice (some ⟨w.heap.size, 0, none⟩) len len)) (w.alloc (.cells (setAll (List.replicate len z) pvs).toArray e')) := by
      simp only [execOp, Instr.buildSlice, Sem.run_bind, run_underlying hu, Result.andThen_ok, hsz]
      rw [if_neg (by omega)]
      by_cases h0 : len * 1 = 0
      · have hl0 : len = 0 := by omega
        subst hl0
        rw [if_pos rfl]
        have hpv : pvs = [] := by
          cases pvs with
          | nil => rfl
          | cons p r => simp [pvOk] at hok
        subst hpv
        simp only [Sem.run_bind, Sem.run_pure, Result.andThen_ok]
        rw [hparts]
        simp [Instr.fill, setAll, newRow, newObj, Sem.run, Array.range_zero']
      · rw [if_neg h0]
        simp only [Sem.run_bind, hz', Result.andThen_ok, Sem.run_pure, hcell]
        rw [hparts, hzero, hfill]
        simp [newRow, newObj, Sem.run]
    unfold Oper.wp
    rw [this, Oper.upon_value]
    exact hK _ _ _ _ ⟨w.heap.size, rfl, rfl, rfl⟩ (hm.new _ _)
theorem LJ_buildSlice {t e : TypeId} {len bytes : Nat} {z : Value} {parts : Array (Nat × Operand)} {pvs : List (Nat × Value)} {cs : List Value} (hg : grd ops σ g = some true) (hd : Nat.blt d E.N = true) (he : elt E.P t = some (e, 1, bytes)) (hz : zer E.P e = some z) (hz1 : z.oneCell' = true) (hl : len ≤ 16777216)
    (hp : oevP σ parts.toList = some pvs) (hok : pvOk len pvs = true) (hc : setAll (List.replicate len z) pvs = cs)
    (h : ∀ b, LJ E Q ops rest ((d, .slice (some ⟨b, 0, none⟩) len len) :: σ) (cellsR b cs.toArray e :: μ) φ) : LJ E Q ops (⟨some d, .buildSlice t len parts, ty, pos, af, g⟩ :: rest) σ μ φ :=
  LJ_o hg hd (OJ_buildSlice he hz hz1 hl hp hok hc) (by rintro _ _ _ ⟨b, rfl, rfl, rfl⟩; exact h b)
/-! ### slices of words -/
def U (l : List Nat) : List Value := l.map fun (x : Nat) => .int .u64 (x : Int)
theorem U_get {l : List Nat} {j : Nat} (h : j < l.length) : (U l)[j]? = some (.int .u64 ((l.getD j 0 : Nat) : Int)) := by
  simp [U, List.getD, List.getElem?_eq_getElem h]
theorem U_take (l : List Nat) (k : Nat) : (U l).take k = U (l.take k) := by simp [U, List.map_take]
theorem U_length (l : List Nat) : (U l).length = l.length := by simp [U]
theorem YJ_sliceH {xt e : TypeId} {x y : Operand} {A : Option Addr} {n c m size bb : Nat} {k : IntKind} {h : Int} (hx : oev σ x = some (.slice A n c)) (hy : oev σ y = some (.int k h)) (he : elt E.P xt = some (e, size, bb)) (hm : h = (m : Int)) (h1 : m ≤ c) :
    YJ E (.slice xt x none (some y) none) ty σ μ φ (.slice A m c) := fun ac w _ _ _ _ hs _ _ => by
  subst hm
  unfold elt at he
  cases hu : E.P.underlying xt with
  | none => rw [hu] at he; simp at he
  | some d =>
    rw [hu] at he
    cases d <;> simp at he
    rename_i e'
    obtain ⟨i', hi, rfl, rfl, rfl⟩ := he
    have hel : E.P.elem xt = e' := by simp [Program.elem, hu]
    have hu' : E.P.underlying xt = some (.slice (E.P.elem xt)) := by rw [hel]; exact hu
    have hsz : (sizeOf (E.P.elem xt)).run E.P w = .ok i'.size w := by rw [hel]; simp [sizeOf, typeInfo, hi]
    simp only [execOp, Option.map_none, Option.map_some, hs.ev hx, hs.ev hy, Sem.run_bind, run_sliceAt_slice w xt _ _ _ _ hu']
    rw [run_slice_h w xt A n c hu' k (m : Int) (by omega) (by omega), hsz]
    have e0 : (fun a : Addr => a.add 0) = id := by
      funext a; simp [Addr.add]
    simp [sliced, e0]
/-- a fact that follows of one -/
theorem OKm.addF {w : World} {μ φ : List Res} (h : OKm E μ φ w) {r r' : Res} (hr : r ∈ φ) (hi : ∀ S, r.p w S → ∃ S', r'.p w S' ∧ ∀ k, S' k → S k) : OKm E μ (r' :: φ) w := by
  refine ⟨h.keeps, ?_⟩
  obtain ⟨S, T, h1, h2, h3, h4, h5, h6⟩ := h.mem
  refine ⟨S, T, h1, ?_, h3, h4, h5, h6⟩
  intro q hq
  rcases List.mem_cons.1 hq with rfl | hq
  · obtain ⟨S1, a1, a2⟩ := h2 r hr
    obtain ⟨S2, b1, b2⟩ := hi S1 a1
    exact ⟨S2, b1, fun k hk => a2 k (b2 k hk)⟩
  · exact h2 q hq
theorem QJ_addF {e : Exit} {r r' : Res} (hr : r ∈ φ) (hi : ∀ w S, r.p w S → ∃ S', r'.p w S' ∧ ∀ k, S' k → S k) (h : QJ E Q e σ μ (r' :: φ)) : QJ E Q e σ μ φ := fun a w ha hm => h a w ha (hm.addF hr (hi w))
theorem CJ_addF {c : Code} {r r' : Res} (hr : r ∈ φ) (hi : ∀ w S, r.p w S → ∃ S', r'.p w S' ∧ ∀ k, S' k → S k) (h : CJ E Q c σ μ (r' :: φ)) : CJ E Q c σ μ φ := fun a w ha hm => h a w ha (hm.addF hr (hi w))
theorem LJ_addF {r r' : Res} (hr : r ∈ φ) (hi : ∀ w S, r.p w S → ∃ S', r'.p w S' ∧ ∀ k, S' k → S k) (h : LJ E Q ops rest σ μ (r' :: φ)) : LJ E Q ops rest σ μ φ := fun a w ha hm => h a w ha (hm.addF hr (hi w))
/-- a fact of nothing -/
theorem OKm.newF {w : World} {μ φ : List Res} (h : OKm E μ φ w) {r' : Res} (hi : r'.p w (fun _ => False)) : OKm E μ (r' :: φ) w := by
  refine ⟨h.keeps, ?_⟩
  obtain ⟨S, T, h1, h2, h3, h4, h5, h6⟩ := h.mem
  refine ⟨S, T, h1, ?_, h3, h4, h5, h6⟩
  intro q hq
  rcases List.mem_cons.1 hq with rfl | hq
  · exact ⟨_, hi, fun k hk => hk.elim⟩
  · exact h2 q hq
theorem QJ_newF {e : Exit} {r' : Res} (hi : ∀ w, r'.p w (fun _ => False)) (h : QJ E Q e σ μ (r' :: φ)) : QJ E Q e σ μ φ := fun a w ha hm => h a w ha (hm.newF (hi w))
theorem LJ_newF {r' : Res} (hi : ∀ w, r'.p w (fun _ => False)) (h : LJ E Q ops rest σ μ (r' :: φ)) : LJ E Q ops rest σ μ φ := fun a w ha hm => h a w ha (hm.newF (hi w))
theorem AJ_newF {r' : Res} (hi : ∀ w, r'.p w (fun _ => False)) (h : AJ E Q ops ml pl fuel listed σ μ (r' :: φ)) : AJ E Q ops ml pl fuel listed σ μ φ := fun hs hQ hm hp a w ha hmem => h hs hQ hm (fun r hr => .tail _ (hp r hr)) a w ha (hmem.newF (hi w))
theorem sliceR_nil (size : Nat) (A : Option Addr) (w : World) : (sliceR size A 0 []).p w (fun _ => False) := ⟨by simp, by simp⟩
theorem sliceR_take {A : Option Addr} {n k : Nat} {xs : List Value} (hk : k ≤ n) (w : World) (S : Nat → Prop) (h : (sliceR 1 A n xs).p w S) : ∃ S', (sliceR 1 A k (xs.take k)).p w S' ∧ ∀ k, S' k → S k := by
  obtain ⟨hl, hs⟩ := h
  have hlen : (xs.take k).length = k := by simp; omega
  by_cases h0 : k = 0
  · subst h0
    exact ⟨fun _ => False, by simpa using sliceR_nil 1 A w, fun k hk => hk.elim⟩
  · rw [if_neg (by omega)] at hs
    obtain ⟨ad, e, hS, hc⟩ := hs
    refine ⟨S, ⟨by omega, ?_⟩, fun k hk => hk⟩
    rw [if_neg (by omega)]
    refine ⟨ad, e, hS, fun j v hj => hc j v ?_⟩
    rw [List.getElem?_take] at hj
    split at hj
    · exact hj
    · cases hj
/-- a block of the call's own, as a slice that is a fact -/
theorem cellsR_slice {b n : Nat} {cs : Array Value} {t : TypeId} {size : Nat} (hn : cs.size = n * size) (w : World) (S : Nat → Prop) (h : (cellsR b cs t).p w S) : ∃ S', (sliceR size (some ⟨b, 0, none⟩) n cs.toList).p w S' ∧ ∀ k, S' k → S k := by
  obtain ⟨hb, hS⟩ := h
  by_cases h0 : cs.size = 0
  · refine ⟨fun _ => False, ⟨by simpa using hn, ?_⟩, fun k hk => hk.elim⟩
    rw [if_pos (by simpa using h0)]
    exact fun _ h => h
  · refine ⟨S, ⟨by simpa using hn, ?_⟩, fun k hk => hk⟩
    rw [if_neg (by simpa using h0)]
    refine ⟨_, rfl, hS, fun j v hj => ?_⟩
    rw [Addr.add_lit, cell_of_row w b (0 + j) cs t (0, 0) hb]
    simpa using hj
def RetF (v0 : Value) (φ0 : List Res) : Value → List Res → List Res → Prop := fun v μ φ => v = v0 ∧ μ = [] ∧ φ = φ0
theorem LJ_callF {x : Operand} {xs : Array Operand} {at_ : Array TypeId} {f : FuncId} {cap : Array Value} {vs vs' : List Value} {φ0 φ1 : List Res} {v0 : Value} (hg : grd ops σ g = some true) (hd : Nat.blt d E.N = true)
    (hx : oev σ x = some (.func (.func f) #[] cap)) (hxs : oevs σ xs.toList = some vs) (hv : vs ++ cap.toList = vs') (ht : Tri E.P f vs' [] φ1 (RetF v0 φ0)) (hφ : ∀ r, r ∈ φ1 → r ∈ φ)
    (h : LJ E Q ops rest ((d, v0) :: σ) μ (φ0 ++ φ)) : LJ E Q ops (⟨some d, .call { callee := .value x, args := xs, argTypes := at_ }, ty, pos, af, g⟩ :: rest) σ μ φ := by
  subst hv
  exact LJ_o hg hd (OJ_call (μr := μ) hx hxs ht (List.Perm.refl _) hφ) (by rintro _ _ _ ⟨_, _, ⟨rfl, rfl, rfl⟩, rfl, rfl⟩; exact h)
theorem AJ_callF {x : Operand} {xs : Array Operand} {at_ : Array TypeId} {f : FuncId} {cap : Array Value} {vs vs' : List Value} {φ0 φ1 : List Res} {v0 : Value} (i : Nat) (hi : ops[i]? = some ⟨some d, .call { callee := .value x, args := xs, argTypes := at_ }, ty, pos, af, g⟩)
    (hr : Region.ready .any ops listed = [i]) (hg : grd ops σ g = some true) (hd : Nat.blt d E.N = true)
    (hx : oev σ x = some (.func (.func f) #[] cap)) (hxs : oevs σ xs.toList = some vs) (hv : vs ++ cap.toList = vs') (ht : Tri E.P f vs' [] φ1 (RetF v0 φ0)) (hφ : ∀ r, r ∈ φ1 → r ∈ φ)
    (h : AJ E Q ops ml pl fuel (listed.setIfInBounds i true) ((d, v0) :: σ) μ (φ0 ++ φ)) : AJ E Q ops ml pl (fuel + 1) listed σ μ φ := by
  subst hv
  exact AJ_o i hi hr hg hd (OJ_call (μr := μ) hx hxs ht (List.Perm.refl _) hφ) (by rintro _ _ _ ⟨_, _, ⟨rfl, rfl, rfl⟩, rfl, rfl⟩; exact ⟨fun _ _ h => h, fun _ _ h => List.mem_append_right _ h, h⟩)
end
end Go.Proofs.Ytbanlhlggkdanaa
