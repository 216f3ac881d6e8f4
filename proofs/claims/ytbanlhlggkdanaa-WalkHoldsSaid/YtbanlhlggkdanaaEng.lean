/- An engine for walks: assertions on slots, own blocks and facts; one rule for each operation. No law is proved here. -/
import Derived.WalkKit
import Derived.WalkSpells
import Derived.WalkLawsBesides
import Derived.Deep.RegionHeld3
set_option linter.unusedSimpArgs false
set_option linter.unusedVariables false
namespace Go.Proofs.Ytbanlhlggkdanaa
open Go.RowKit

/-! ### resources -/
structure Res where
  p : World → (Nat → Prop) → Prop
  loc : ∀ {w w' : World} {S : Nat → Prop}, p w S → (∀ k, S k → w'.heap[k]? = w.heap[k]?) → p w' S
  lt : ∀ {w : World} {S : Nat → Prop} {k : Nat}, p w S → S k → k < w.heap.size

def Sep (w : World) : List Res → (Nat → Prop) → Prop
  | [], S => ∀ k, ¬ S k
  | r :: rs, S => ∃ S1 S2 : Nat → Prop, r.p w S1 ∧ Sep w rs S2 ∧ (∀ k, S1 k → ¬ S2 k) ∧ ∀ k, S k ↔ (S1 k ∨ S2 k)

def Fac (w : World) (φ : List Res) (T : Nat → Prop) : Prop := ∀ r, r ∈ φ → ∃ S : Nat → Prop, r.p w S ∧ ∀ k, S k → T k

def Hold (w : World) (ρ : List Res) : Prop := ∀ r, r ∈ ρ → ∃ S : Nat → Prop, r.p w S

structure Keeps (S : Nat → Prop) (w w' : World) : Prop where
  os : w'.os = w.os
  tape : w'.tape = w.tape
  output : w'.output = w.output
  size : w.heap.size ≤ w'.heap.size
  block : ∀ k, k < w.heap.size → ¬ S k → w'.heap[k]? = w.heap[k]?

theorem Keeps.refl (S : Nat → Prop) (w : World) : Keeps S w w := ⟨rfl, rfl, rfl, Nat.le_refl _, fun _ _ _ => rfl⟩
theorem Keeps.trans {S S1 : Nat → Prop} {w w1 w2 : World} (h : Keeps S w w1) (h1 : Keeps S1 w1 w2) (hs : ∀ k, S1 k → S k ∨ w.heap.size ≤ k) : Keeps S w w2 :=
  ⟨h1.os.trans h.os, h1.tape.trans h.tape, h1.output.trans h.output, Nat.le_trans h.size h1.size, fun k hk hn =>
    (h1.block k (Nat.lt_of_lt_of_le hk h.size) (fun hh => by rcases hs k hh with h2 | h2; exact hn h2; omega)).trans (h.block k hk hn)⟩
theorem Keeps.below {S : Nat → Prop} {w w' : World} (h : Keeps S w w') (hS : ∀ k, ¬ S k) : Below w.heap.size w w' :=
  ⟨h.os, h.tape, h.output, h.size, fun k hk => h.block k hk (hS k)⟩
theorem Keeps.of_below {w w' : World} (h : Below w.heap.size w w') : Keeps (fun _ => False) w w' := ⟨h.os, h.tape, h.output, h.size, fun k hk _ => h.block k hk⟩
theorem Keeps.drew (w : World) (S : Nat → Prop) : Keeps S w w.drew := ⟨rfl, rfl, rfl, Nat.le_refl _, fun _ _ _ => rfl⟩
theorem Keeps.alloc (w : World) (o : Obj) (S : Nat → Prop) : Keeps S w (w.alloc o) :=
  ⟨rfl, rfl, rfl, by simp, fun k hk _ => Below.heap_alloc w o k hk⟩
theorem Keeps.mono {S S' : Nat → Prop} {w w' : World} (h : Keeps S w w') (hs : ∀ k, S k → S' k) : Keeps S' w w' :=
  ⟨h.os, h.tape, h.output, h.size, fun k hk hn => h.block k hk (fun hh => hn (hs k hh))⟩

theorem Sep.keep {w w' : World} : ∀ {μ : List Res} {S : Nat → Prop}, Sep w μ S → (∀ k, S k → w'.heap[k]? = w.heap[k]?) → Sep w' μ S
  | [], _, h, _ => h
  | _ :: _, _, ⟨S1, S2, h1, h2, hd, hs⟩, hk => ⟨S1, S2, Res.loc _ h1 (fun k h => hk k ((hs k).2 (.inl h))), Sep.keep h2 (fun k h => hk k ((hs k).2 (.inr h))), hd, hs⟩
theorem Sep.lt {w : World} : ∀ {μ : List Res} {S : Nat → Prop} {k : Nat}, Sep w μ S → S k → k < w.heap.size
  | [], _, _, h, hk => absurd hk (h _)
  | _ :: _, _, _, ⟨_, _, h1, h2, _, hs⟩, hk => ((hs _).1 hk).elim (fun h => Res.lt _ h1 h) (fun h => Sep.lt h2 h)
theorem Sep.mem {w : World} : ∀ {μ : List Res} {S : Nat → Prop} {r : Res}, Sep w μ S → r ∈ μ → ∃ S1 : Nat → Prop, r.p w S1 ∧ ∀ k, S1 k → S k
  | _ :: _, _, _, ⟨S1, _, h1, _, _, hs⟩, .head _ => ⟨S1, h1, fun k h => (hs k).2 (.inl h)⟩
  | _ :: _, _, _, ⟨_, _, _, h2, _, hs⟩, .tail _ hm => let ⟨S1, h1, hk⟩ := Sep.mem h2 hm; ⟨S1, h1, fun k h => (hs k).2 (.inr (hk k h))⟩
theorem Sep.app {w : World} : ∀ {μ μ' : List Res} {S S' : Nat → Prop}, Sep w μ S → Sep w μ' S' → (∀ k, S k → ¬ S' k) → Sep w (μ ++ μ') (fun k => S k ∨ S' k)
  | [], μ', S, S', h, h', _ => by
    have e : (fun k => S k ∨ S' k) = S' := funext fun k => propext ⟨fun hh => hh.resolve_left (h k), .inr⟩
    rw [e]; exact h'
  | _ :: _, _, S, S', ⟨S1, S2, h1, h2, hd, hs⟩, h', hdd =>
    ⟨S1, fun k => S2 k ∨ S' k, h1, Sep.app h2 h' (fun k hk => hdd k ((hs k).2 (.inr hk))), fun k hk hh => hh.elim (hd k hk) (hdd k ((hs k).2 (.inl hk))), fun k => by
      show (S k ∨ S' k) ↔ (S1 k ∨ (S2 k ∨ S' k))
      rw [hs k, or_assoc]⟩
theorem Sep.split {w : World} : ∀ {μ μ' : List Res} {S : Nat → Prop}, Sep w (μ ++ μ') S → ∃ S1 S2 : Nat → Prop, Sep w μ S1 ∧ Sep w μ' S2 ∧ (∀ k, S1 k → ¬ S2 k) ∧ ∀ k, S k ↔ (S1 k ∨ S2 k)
  | [], _, S, h => ⟨fun _ => False, S, fun _ h => h, h, fun _ h => h.elim, fun _ => ⟨.inr, fun h => h.resolve_left id⟩⟩
  | _ :: _, _, _, ⟨S1, S2, h1, h2, hd, hs⟩ => by
    obtain ⟨T1, T2, g1, g2, gd, gs⟩ := Sep.split h2
    refine ⟨fun k => S1 k ∨ T1 k, T2, ⟨S1, T1, h1, g1, fun k a b => hd k a ((gs k).2 (.inl b)), fun _ => Iff.rfl⟩, g2, fun k a b => ?_, fun k => ?_⟩
    · rcases a with a | a
      · exact hd k a ((gs k).2 (.inr b))
      · exact gd k a b
    · rw [hs k, gs k, or_assoc]
theorem Sep.perm {w : World} {μ μ' : List Res} (hp : List.Perm μ μ') : ∀ {S : Nat → Prop}, Sep w μ S → Sep w μ' S := by
  induction hp with
  | nil => exact id
  | cons x _ ih => exact fun ⟨S1, S2, h1, h2, hd, hs⟩ => ⟨S1, S2, h1, ih h2, hd, hs⟩
  | swap x y l =>
    rintro S ⟨S1, S2, h1, ⟨T1, T2, g1, g2, gd, gs⟩, hd, hs⟩
    refine ⟨T1, fun k => S1 k ∨ T2 k, g1, ⟨S1, T2, h1, g2, fun k a b => hd k a ((gs k).2 (.inr b)), fun _ => Iff.rfl⟩, fun k a b => ?_, fun k => ?_⟩
    · rcases b with b | b
      · exact hd k b ((gs k).2 (.inl a))
      · exact gd k a b
    · rw [hs k, gs k]; exact or_left_comm
  | trans _ _ ih1 ih2 => exact fun h => ih2 (ih1 h)

/-! ### slots -/
def lk (t : Nat) : List (Nat × Value) → Option Value
  | [] => none
  | (s, v) :: r => bif Nat.beq t s then some v else lk t r

def Slots (σ : List (Nat × Value)) (a : Act) : Prop := ∀ t v, lk t σ = some v → a.tmps[t]? = some v

def oev (σ : List (Nat × Value)) : Operand → Option Value
  | .tmp t => lk t σ
  | .const v => some v
  | .global g => some (.pointer (some ⟨g, 0, none⟩))
  | .func f => some (.func (.func f) #[] #[])

def oevs (σ : List (Nat × Value)) : List Operand → Option (List Value)
  | [] => some []
  | x :: xs => match oev σ x, oevs σ xs with
    | some v, some vs => some (v :: vs)
    | _, _ => none

theorem Slots.ev {σ : List (Nat × Value)} {a : Act} (h : Slots σ a) {x : Operand} {v : Value} (hx : oev σ x = some v) : a.eval x = v := by
  cases x with
  | tmp t =>
    have := h t v hx
    simp [Act.eval, this]
  | const v' => simpa [oev, Act.eval] using hx
  | global g => simpa [oev, Act.eval] using hx
  | func f => simpa [oev, Act.eval] using hx
theorem Slots.evs {σ : List (Nat × Value)} {a : Act} (h : Slots σ a) : ∀ {xs : List Operand} {vs : List Value}, oevs σ xs = some vs → xs.map a.eval = vs
  | [], vs, hx => by simpa [oevs] using hx
  | x :: xs, vs, hx => by
    simp only [oevs] at hx
    cases h1 : oev σ x with
    | none => rw [h1] at hx; simp at hx
    | some v =>
      cases h2 : oevs σ xs with
      | none => rw [h1, h2] at hx; simp at hx
      | some us =>
        rw [h1, h2] at hx
        simp only [Option.some.injEq] at hx
        subst hx
        simp [h.ev h1, h.evs h2]
theorem Slots.put {σ : List (Nat × Value)} {a : Act} (h : Slots σ a) {d : Nat} (hd : d < a.tmps.size) (v : Value) : Slots ((d, v) :: σ) (a.put (some d) v) := by
  intro t u hu
  simp only [lk] at hu
  by_cases e : t = d
  · subst e
    simp only [Nat.beq_refl, cond_true, Option.some.injEq] at hu
    subst hu
    simp [Act.put, hd]
  · have hb : Nat.beq t d = false := by rw [Bool.eq_false_iff]; intro hh; exact e (Nat.eq_of_beq_eq_true hh)
    rw [hb] at hu
    simp only [cond_false] at hu
    have := h t u hu
    simp only [Act.put]
    rw [Array.getElem?_setIfInBounds_ne (Ne.symm e)]
    exact this
theorem Act.size_put (a : Act) (d : Option Tmp) (v : Value) : (a.put d v).tmps.size = a.tmps.size := by cases d <;> simp [Act.put]
theorem Act.defers_put (a : Act) (d : Option Tmp) (v : Value) : (a.put d v).defers = a.defers := by cases d <;> rfl

def AllLk (σ : List (Nat × Value)) : List (Nat × Value) → Prop
  | [] => True
  | (s, v) :: r => lk s σ = some v ∧ AllLk σ r
theorem Slots.weak {σ : List (Nat × Value)} {a : Act} (h : Slots σ a) : ∀ {σ' : List (Nat × Value)}, AllLk σ σ' → Slots σ' a
  | [], _, t, v, hv => by simp [lk] at hv
  | (s, u) :: r, ⟨h1, h2⟩, t, v, hv => by
    simp only [lk] at hv
    cases hb : Nat.beq t s with
    | true =>
      rw [hb] at hv
      simp only [cond_true, Option.some.injEq] at hv
      have := Nat.eq_of_beq_eq_true hb
      subst this; subst hv
      exact h _ _ h1
    | false =>
      rw [hb] at hv
      simp only [cond_false] at hv
      exact h.weak h2 t v hv

/-! ### states -/
structure Env where
  P : Program
  w0 : World
  S0 : Nat → Prop
  T0 : Nat → Prop
  N : Nat
  ds : List Deferred

structure OKm (E : Env) (μ φ : List Res) (w : World) : Prop where
  keeps : Keeps E.S0 E.w0 w
  mem : ∃ S T : Nat → Prop, Sep w μ S ∧ Fac w φ T ∧ (∀ k, S k → ¬ T k) ∧ (∀ k, S k → E.S0 k ∨ E.w0.heap.size ≤ k) ∧ (∀ k, T k → E.T0 k ∨ E.S0 k ∨ E.w0.heap.size ≤ k) ∧ ∀ k, T k → k < w.heap.size

structure OKa (E : Env) (σ : List (Nat × Value)) (a : Act) : Prop where
  defs : a.defers = E.ds
  siz : a.tmps.size = E.N
  slots : Slots σ a

abbrev Qt := Exit → Act → World → Prop
def CJ (E : Env) (Q : Qt) (c : Code) (σ : List (Nat × Value)) (μ φ : List Res) : Prop := ∀ a w, OKa E σ a → OKm E μ φ w → c.wp E.P Q a w
def LJ (E : Env) (Q : Qt) (ops : Array Oper) (l : List Oper) (σ : List (Nat × Value)) (μ φ : List Res) : Prop := ∀ a w, OKa E σ a → OKm E μ φ w → wpList E.P ops Q l a w
def QJ (E : Env) (Q : Qt) (e : Exit) (σ : List (Nat × Value)) (μ φ : List Res) : Prop := ∀ a w, OKa E σ a → OKm E μ φ w → Q e a w

/-- a value that an operation yields, without any change of the world -/
def YJ (E : Env) (op : Op) (ty : TypeId) (σ : List (Nat × Value)) (μ φ : List Res) (v : Value) : Prop :=
  ∀ a w d pos af g, Slots σ a → Hold w μ → Hold w φ → (execOp a.eval ⟨d, op, ty, pos, af, g⟩).run E.P w = .ok (.value v) w

/-- what an operation does that changes the world -/
def OJ (E : Env) (op : Op) (ty : TypeId) (σ : List (Nat × Value)) (μ φ : List Res) (X : Value → List Res → List Res → Prop) : Prop :=
  ∀ a w d pos af g K Q, Slots σ a → OKm E μ φ w → (∀ v μ' φ' w', X v μ' φ' → OKm E μ' φ' w' → K (a.put d v) w') → Oper.wp E.P ⟨d, op, ty, pos, af, g⟩ a w K Q

theorem OKm.hold {E : Env} {μ φ : List Res} {w : World} (h : OKm E μ φ w) : Hold w μ ∧ Hold w φ := by
  obtain ⟨S, T, hS, hT, _⟩ := h.mem
  exact ⟨fun r hr => let ⟨S1, h1, _⟩ := hS.mem hr; ⟨S1, h1⟩, fun r hr => let ⟨S1, h1, _⟩ := hT r hr; ⟨S1, h1⟩⟩

theorem OKa.put {E : Env} {σ : List (Nat × Value)} {a : Act} (h : OKa E σ a) {d : Nat} (hd : Nat.blt d E.N = true) (v : Value) : OKa E ((d, v) :: σ) (a.put (some d) v) :=
  ⟨by rw [Act.defers_put]; exact h.defs, by rw [Act.size_put]; exact h.siz, h.slots.put (by rw [h.siz]; exact Nat.le_of_ble_eq_true hd) v⟩

def grd (ops : Array Oper) (σ : List (Nat × Value)) : Option (Nat × Bool) → Option Bool
  | none => some true
  | some (j, want) => match (ops[j]?).bind (·.dst) with
    | some t => match lk t σ with
      | some (.bool b) => some (b == want)
      | some _ => some false
      | none => none
    | none => none

theorem grd_wanted {E : Env} {ops : Array Oper} {σ : List (Nat × Value)} {a : Act} (h : OKa E σ a) {o : Oper} {b : Bool} (hg : grd ops σ o.guard = some b) : Region.wanted o (yielded ops a.tmps) = b := by
  unfold Region.wanted
  cases hog : o.guard with
  | none => rw [hog] at hg; simpa [grd] using hg
  | some p =>
    obtain ⟨j, want⟩ := p
    rw [hog] at hg
    simp only [grd] at hg
    cases ht : (ops[j]?).bind (·.dst) with
    | none => rw [ht] at hg; simp at hg
    | some t =>
      rw [ht] at hg
      simp only at hg
      cases hl : lk t σ with
      | none => rw [hl] at hg; simp at hg
      | some v =>
        rw [hl] at hg
        have h2 := h.slots t _ hl
        cases v with
        | bool c =>
          simp at hg
          have hy : yielded ops a.tmps j = some c := by
            unfold yielded
            rw [ht, Option.bind_some, h2]
          simp only [hy, ← hg]
          cases c <;> cases want <;> rfl
        | _ =>
          simp at hg
          have hy : yielded ops a.tmps j = none := by
            unfold yielded
            rw [ht, Option.bind_some, h2]
          simp only [hy, hg]
          cases want <;> rfl

section
variable {E : Env} {Q : Qt} {ops : Array Oper} {rest : List Oper} {σ : List (Nat × Value)} {μ φ : List Res}

theorem LJ_nil (h : QJ E Q .normal σ μ φ) : LJ E Q ops [] σ μ φ := fun a w ha hm => h a w ha hm

theorem LJ_y {d : Tmp} {op : Op} {ty : TypeId} {pos : String} {af : Array Edge} {g : Option (Nat × Bool)} {v : Value} (hg : grd ops σ g = some true) (hd : Nat.blt d E.N = true)
    (hy : YJ E op ty σ μ φ v) (h : LJ E Q ops rest ((d, v) :: σ) μ φ) : LJ E Q ops (⟨some d, op, ty, pos, af, g⟩ :: rest) σ μ φ := fun a w ha hm => by
  unfold wpList
  rw [if_pos (grd_wanted (o := ⟨some d, op, ty, pos, af, g⟩) ha hg)]
  refine .inl ?_
  unfold Oper.wp
  rw [hy a w (some d) pos af g ha.slots hm.hold.1 hm.hold.2, Oper.upon_value]
  exact h _ _ (ha.put hd v) hm

theorem LJ_skip {d : Tmp} {op : Op} {ty : TypeId} {pos : String} {af : Array Edge} {g : Option (Nat × Bool)} (hg : grd ops σ g = some false) (hd : Nat.blt d E.N = true)
    (h : LJ E Q ops rest ((d, undef) :: σ) μ φ) : LJ E Q ops (⟨some d, op, ty, pos, af, g⟩ :: rest) σ μ φ := fun a w ha hm => by
  unfold wpList
  rw [if_neg (by rw [grd_wanted (o := ⟨some d, op, ty, pos, af, g⟩) ha hg]; simp)]
  exact h _ _ (ha.put hd undef) hm

theorem LJ_o {d : Tmp} {op : Op} {ty : TypeId} {pos : String} {af : Array Edge} {g : Option (Nat × Bool)} {X : Value → List Res → List Res → Prop} (hg : grd ops σ g = some true) (hd : Nat.blt d E.N = true)
    (ho : OJ E op ty σ μ φ X) (h : ∀ v μ' φ', X v μ' φ' → LJ E Q ops rest ((d, v) :: σ) μ' φ') : LJ E Q ops (⟨some d, op, ty, pos, af, g⟩ :: rest) σ μ φ := fun a w ha hm => by
  unfold wpList
  rw [if_pos (grd_wanted (o := ⟨some d, op, ty, pos, af, g⟩) ha hg)]
  exact .inl (ho a w _ _ _ _ _ _ ha.slots hm fun v μ' φ' w' hx hm' => h v μ' φ' hx _ _ (ha.put hd v) hm')

theorem LJ_o0 {op : Op} {ty : TypeId} {pos : String} {af : Array Edge} {g : Option (Nat × Bool)} {X : Value → List Res → List Res → Prop} (hg : grd ops σ g = some true)
    (ho : OJ E op ty σ μ φ X) (h : ∀ v μ' φ', X v μ' φ' → LJ E Q ops rest σ μ' φ') : LJ E Q ops (⟨none, op, ty, pos, af, g⟩ :: rest) σ μ φ := fun a w ha hm => by
  unfold wpList
  rw [if_pos (grd_wanted (o := ⟨none, op, ty, pos, af, g⟩) ha hg)]
  exact .inl (ho a w _ _ _ _ _ _ ha.slots hm fun v μ' φ' w' hx hm' => h v μ' φ' hx _ _ ha hm')

theorem LJ_skip0 {op : Op} {ty : TypeId} {pos : String} {af : Array Edge} {g : Option (Nat × Bool)} (hg : grd ops σ g = some false)
    (h : LJ E Q ops rest σ μ φ) : LJ E Q ops (⟨none, op, ty, pos, af, g⟩ :: rest) σ μ φ := fun a w ha hm => by
  unfold wpList
  rw [if_neg (by rw [grd_wanted (o := ⟨none, op, ty, pos, af, g⟩) ha hg]; simp)]
  exact h _ _ ha hm

theorem OKm.drew {w : World} (hm : OKm E μ φ w) : OKm E μ φ w.drew :=
  ⟨⟨hm.keeps.os, hm.keeps.tape, hm.keeps.output, hm.keeps.size, hm.keeps.block⟩, by
    obtain ⟨S, T, h1, h2, h3, h4, h5, h6⟩ := hm.mem
    exact ⟨S, T, h1.keep (fun _ _ => rfl), fun r hr => let ⟨S1, a, b⟩ := h2 r hr; ⟨S1, r.loc a (fun _ _ => rfl), b⟩, h3, h4, h5, h6⟩⟩

/-! ### regions that draw -/
def AJ (E : Env) (Q : Qt) (ops : Array Oper) (ml pl : List Res) (fuel : Nat) (listed : Array Bool) (σ : List (Nat × Value)) (μ φ : List Res) : Prop :=
  Region.noSelect ops = true → (∀ c a w d v, Q (.panic c) (a.put (some d) v) w → Q (.panic c) a w) → (∀ r, r ∈ ml → r ∈ μ) → (∀ r, r ∈ pl → r ∈ φ) → ∀ a w, OKa E σ a → OKm E μ φ w → wpAnyH E.P .any ops Q (fun w => Hold w ml ∧ Hold w pl) fuel listed a w

theorem Hold.sub {w : World} {ρ ρ' : List Res} (h : Hold w ρ) (hs : ∀ r, r ∈ ρ' → r ∈ ρ) : Hold w ρ' := fun r hr => h r (hs r hr)

variable {ml pl : List Res} {fuel : Nat} {listed : Array Bool}

theorem AJ_y (i : Nat) {d : Tmp} {op : Op} {ty : TypeId} {pos : String} {af : Array Edge} {g : Option (Nat × Bool)} {v : Value} (hi : ops[i]? = some ⟨some d, op, ty, pos, af, g⟩)
    (hf : Region.free .any ops listed i = true) (hr : (Region.ready .any ops listed).contains i = true)
    (hg : grd ops σ g = some true) (hd : Nat.blt d E.N = true) (hy : YJ E op ty σ ml pl v)
    (h : AJ E Q ops ml pl fuel (listed.setIfInBounds i true) ((d, v) :: σ) μ φ) : AJ E Q ops ml pl (fuel + 1) listed σ μ φ := fun hs hQ hm hp a w ha hmem =>
  wpAnyH_take hi hs hf hr (fun c a w => hQ c a w _ _) (.inl ⟨grd_wanted (o := ⟨some d, op, ty, pos, af, g⟩) ha hg, fun w' hw' => hy a w' _ _ _ _ ha.slots hw'.1 hw'.2⟩)
    ⟨hmem.hold.1.sub hm, hmem.hold.2.sub hp⟩ (h hs hQ hm hp _ _ (ha.put hd v) hmem)

theorem AJ_skip (i : Nat) {d : Tmp} {op : Op} {ty : TypeId} {pos : String} {af : Array Edge} {g : Option (Nat × Bool)} (hi : ops[i]? = some ⟨some d, op, ty, pos, af, g⟩)
    (hf : Region.free .any ops listed i = true) (hr : (Region.ready .any ops listed).contains i = true)
    (hg : grd ops σ g = some false) (hd : Nat.blt d E.N = true)
    (h : AJ E Q ops ml pl fuel (listed.setIfInBounds i true) ((d, undef) :: σ) μ φ) : AJ E Q ops ml pl (fuel + 1) listed σ μ φ := fun hs hQ hm hp a w ha hmem =>
  wpAnyH_take hi hs hf hr (fun c a w => hQ c a w _ _) (.inr ⟨grd_wanted (o := ⟨some d, op, ty, pos, af, g⟩) ha hg, rfl⟩)
    ⟨hmem.hold.1.sub hm, hmem.hold.2.sub hp⟩ (h hs hQ hm hp _ _ (ha.put hd undef) hmem)

/-- the only operation that can come now -/
theorem AJ_o (i : Nat) {d : Tmp} {op : Op} {ty : TypeId} {pos : String} {af : Array Edge} {g : Option (Nat × Bool)} {X : Value → List Res → List Res → Prop} (hi : ops[i]? = some ⟨some d, op, ty, pos, af, g⟩)
    (hr : Region.ready .any ops listed = [i]) (hg : grd ops σ g = some true) (hd : Nat.blt d E.N = true) (ho : OJ E op ty σ μ φ X)
    (h : ∀ v μ' φ', X v μ' φ' → (∀ r, r ∈ ml → r ∈ μ → r ∈ μ') ∧ (∀ r, r ∈ pl → r ∈ φ → r ∈ φ') ∧ AJ E Q ops ml pl fuel (listed.setIfInBounds i true) ((d, v) :: σ) μ' φ') : AJ E Q ops ml pl (fuel + 1) listed σ μ φ := fun hs hQ hm hp a w ha hmem =>
  wpAnyH_all hr (by simp) fun j hj => by
    have hji : j = i := by simpa using hj
    subst hji
    unfold wpOp
    rw [hi]
    dsimp only
    rw [if_pos (grd_wanted (o := ⟨some d, op, ty, pos, af, g⟩) ha hg)]
    refine .inl (ho a w _ _ _ _ _ _ ha.slots hmem fun v μ' φ' w' hx hm' => ?_)
    obtain ⟨k1, k2, k3⟩ := h v μ' φ' hx
    have e1 : ∀ r, r ∈ ml → r ∈ μ' := fun r hr => k1 r hr (hm r hr)
    have e2 : ∀ r, r ∈ pl → r ∈ φ' := fun r hr => k2 r hr (hp r hr)
    exact ⟨⟨hm'.hold.1.sub e1, hm'.hold.2.sub e2⟩, k3 hs hQ e1 e2 _ _ (ha.put hd v) hm'⟩

theorem AJ_o0 (i : Nat) {op : Op} {ty : TypeId} {pos : String} {af : Array Edge} {g : Option (Nat × Bool)} {X : Value → List Res → List Res → Prop} (hi : ops[i]? = some ⟨none, op, ty, pos, af, g⟩)
    (hr : Region.ready .any ops listed = [i]) (hg : grd ops σ g = some true) (ho : OJ E op ty σ μ φ X)
    (h : ∀ v μ' φ', X v μ' φ' → ((∀ r, r ∈ ml → r ∈ μ) → ∀ r, r ∈ ml → r ∈ μ') ∧ (∀ r, r ∈ pl → r ∈ φ → r ∈ φ') ∧ AJ E Q ops ml pl fuel (listed.setIfInBounds i true) σ μ' φ') : AJ E Q ops ml pl (fuel + 1) listed σ μ φ := fun hs hQ hm hp a w ha hmem =>
  wpAnyH_all hr (by simp) fun j hj => by
    have hji : j = i := by simpa using hj
    subst hji
    unfold wpOp
    rw [hi]
    dsimp only
    rw [if_pos (grd_wanted (o := ⟨none, op, ty, pos, af, g⟩) ha hg)]
    refine .inl (ho a w _ _ _ _ _ _ ha.slots hmem fun v μ' φ' w' hx hm' => ?_)
    obtain ⟨k1, k2, k3⟩ := h v μ' φ' hx
    have e1 : ∀ r, r ∈ ml → r ∈ μ' := k1 hm
    have e2 : ∀ r, r ∈ pl → r ∈ φ' := fun r hr => k2 r hr (hp r hr)
    exact ⟨⟨hm'.hold.1.sub e1, hm'.hold.2.sub e2⟩, k3 hs hQ e1 e2 _ _ ha hm'⟩

/-- a bool in a slot is known -/
theorem LJ_bool {d : Nat} {b c : Bool} (hb : b = c) (h : LJ E Q ops rest ((d, .bool c) :: σ) μ φ) : LJ E Q ops rest ((d, .bool b) :: σ) μ φ := by subst hb; exact h
theorem LJ_boolC {d : Nat} {b : Bool} (ht : b = true → LJ E Q ops rest ((d, .bool true) :: σ) μ φ) (hf : b = false → LJ E Q ops rest ((d, .bool false) :: σ) μ φ) : LJ E Q ops rest ((d, .bool b) :: σ) μ φ := by
  cases b
  · exact hf rfl
  · exact ht rfl
theorem AJ_bool {d : Nat} {b c : Bool} (hb : b = c) (h : AJ E Q ops ml pl fuel listed ((d, .bool c) :: σ) μ φ) : AJ E Q ops ml pl fuel listed ((d, .bool b) :: σ) μ φ := by subst hb; exact h
theorem AJ_boolC {d : Nat} {b : Bool} (ht : b = true → AJ E Q ops ml pl fuel listed ((d, .bool true) :: σ) μ φ) (hf : b = false → AJ E Q ops ml pl fuel listed ((d, .bool false) :: σ) μ φ) : AJ E Q ops ml pl fuel listed ((d, .bool b) :: σ) μ φ := by
  cases b
  · exact hf rfl
  · exact ht rfl
/-- a value in a slot, written otherwise -/
theorem LJ_val {d : Nat} {u v : Value} (hb : u = v) (h : LJ E Q ops rest ((d, v) :: σ) μ φ) : LJ E Q ops rest ((d, u) :: σ) μ φ := by subst hb; exact h
theorem AJ_val {d : Nat} {u v : Value} (hb : u = v) (h : AJ E Q ops ml pl fuel listed ((d, v) :: σ) μ φ) : AJ E Q ops ml pl fuel listed ((d, u) :: σ) μ φ := by subst hb; exact h

theorem AJ_done (hr : Region.ready .any ops listed = []) (h : QJ E Q .normal σ μ φ) : AJ E Q ops ml pl fuel listed σ μ φ := fun _ _ _ _ a w ha hmem => wpAnyH_done hr (h a w ha hmem) _

/-- the rest of the region in the order of the text: each one waits for all that come ahead of it -/
def seqOk (ops : Array Oper) (n : Nat) : Nat → Nat → Bool
  | _, 0 => true
  | i, k + 1 => (Region.ready .any ops ((Array.replicate i true) ++ Array.replicate (n - i) false) == [i]) && seqOk ops n (i + 1) k
theorem wpAny_seq {P : Program} {n : Nat} (hn : ops.size = n) : ∀ (l : List Oper) (i : Nat) (a : Act) (w : World), i + l.length = n → (∀ j, l[j]? = ops[i + j]?) → seqOk ops n i l.length = true →
    wpList P ops Q l a w → wpAny P .any ops Q l.length ((Array.replicate i true) ++ Array.replicate (n - i) false) a w
  | [], i, a, w, hi, _, _, h => by
    have hi' : i = n := by simpa using hi
    subst hi'
    have hr : Region.ready .any ops (Array.replicate i true ++ Array.replicate (i - i) false) = [] := by
      unfold Region.ready
      rw [List.filter_eq_nil_iff]
      intro k hk
      have hk' : k < i := by rw [hn] at hk; simpa using hk
      simp [hk']
    exact wpAny_done hr h 0
  | o :: l, i, a, w, hi, ho, hs, h => by
    simp only [List.length_cons] at hi hs ⊢
    simp only [seqOk, Bool.and_eq_true, beq_iff_eq] at hs
    have h0 : ops[i]? = some o := by have := ho 0; simpa using this.symm
    refine wpAny_all hs.1 (by simp) fun j hj => ?_
    have hji : j = i := by simpa using hj
    subst hji
    have hset : ((Array.replicate j true) ++ Array.replicate (n - j) false).setIfInBounds j true = (Array.replicate (j + 1) true) ++ Array.replicate (n - (j + 1)) false := by
      apply Array.ext
      · simp; omega
      · intro q h1 h2
        by_cases hq : j = q
        · subst hq; simp [Array.getElem_append]
        · rw [Array.getElem_setIfInBounds_ne (by simpa using h1) hq]
          simp only [Array.getElem_append, Array.getElem_replicate, Array.size_replicate]
          by_cases hlt : q < j
          · simp [hlt, Nat.lt_succ_of_lt hlt]
          · have : ¬ q < j + 1 := by omega
            simp [hlt, this]
    have ih : ∀ a w, wpList P ops Q l a w → wpAny P .any ops Q l.length (((Array.replicate j true) ++ Array.replicate (n - j) false).setIfInBounds j true) a w := fun a w hh => by
      rw [hset]
      exact wpAny_seq hn l (j + 1) a w (by omega) (fun q => by have := ho (q + 1); rw [List.getElem?_cons_succ] at this; rw [this]; congr 1; omega) hs.2 hh
    unfold wpList at h
    unfold wpOp
    rw [h0]
    dsimp only
    split
    · rename_i hw
      rw [if_pos hw] at h
      exact h.imp (Oper.wp_mono ih) id
    · rename_i hw
      rw [if_neg hw] at h
      exact ih _ _ h

/-- a region that draws but whose order is forced -/
theorem CJ_regD_seq {id : Nat} {l : List Oper} (hmix : E.P.follows .mixedOrders = true) (hs : seqOk l.toArray l.length 0 l.length = true) (h : LJ E Q l.toArray l σ μ φ) : CJ E Q (.region id l.toArray true) σ μ φ := fun a w ha hm => by
  refine wp_region_any hmix ?_
  have hh := h a w.drew ha hm.drew
  have := wpAny_seq (P := E.P) (Q := Q) (ops := l.toArray) (n := l.length) (by simp) l 0 a w.drew (by simp) (by simp) hs hh
  simpa using this

theorem CJ_reg {id : Nat} {l : List Oper} (h : LJ E Q l.toArray l σ μ φ) : CJ E Q (.region id l.toArray false) σ μ φ := fun a w ha hm => wp_region_lit (h a w ha hm)
theorem CJ_regD {id : Nat} (hmix : E.P.follows .mixedOrders = true) (hs : Region.noSelect ops = true) (hQ : ∀ c a w d v, Q (.panic c) (a.put (some d) v) w → Q (.panic c) a w) (ml pl : List Res) (hml : ∀ r, r ∈ ml → r ∈ μ) (hpl : ∀ r, r ∈ pl → r ∈ φ)
    (h : AJ E Q ops ml pl ops.size (Array.replicate ops.size false) σ μ φ) : CJ E Q (.region id ops true) σ μ φ := fun a w ha hm =>
  wp_region_held (S := fun w => Hold w ml ∧ Hold w pl) hmix (h hs hQ hml hpl a w.drew ha hm.drew)

/-! ### code -/
theorem CJ_seq {x y : Code} (h : CJ E (Exit.then (y.wp E.P Q) Q) x σ μ φ) : CJ E Q (.seq x y) σ μ φ := fun a w ha hm => wp_seq (h a w ha hm)
theorem CJ_skip (h : QJ E Q .normal σ μ φ) : CJ E Q .skip σ μ φ := fun a w ha hm => wp_skip (h a w ha hm)
theorem CJ_ret (h : QJ E Q .ret σ μ φ) : CJ E Q .ret σ μ φ := fun a w ha hm => wp_ret (h a w ha hm)
theorem CJ_exit {id : Nat} (h : QJ E Q (.exit id) σ μ φ) : CJ E Q (.exit id) σ μ φ := fun a w ha hm => wp_exit (h a w ha hm)
theorem CJ_label {id : Nat} (h : QJ E Q .normal σ μ φ) : CJ E Q (.label id) σ μ φ := fun a w ha hm => wp_label (h a w ha hm)
theorem CJ_block {id : Nat} {c : Code} (h : CJ E (Exit.inBlock id Q) c σ μ φ) : CJ E Q (.block id c) σ μ φ := fun a w ha hm => wp_block (h a w ha hm)
theorem CJ_cond {c : Operand} {x y : Code} {b : Bool} (hc : oev σ c = some (.bool b)) (ht : b = true → CJ E Q x σ μ φ) (hf : b = false → CJ E Q y σ μ φ) : CJ E Q (.cond c x y) σ μ φ := fun a w ha hm =>
  wp_cond_split (ha.slots.ev hc) (fun h => ht h a w ha hm) (fun h => hf h a w ha hm)
theorem CJ_condT {c : Operand} {x y : Code} (hc : oev σ c = some (.bool true)) (ht : CJ E Q x σ μ φ) : CJ E Q (.cond c x y) σ μ φ := fun a w ha hm => wp_cond_true (ha.slots.ev hc) (ht a w ha hm)
theorem CJ_cond' {c : Operand} {x y : Code} {b b' : Bool} (hc : oev σ c = some (.bool b)) (hb : b = b') (h : CJ E Q (bif b' then x else y) σ μ φ) : CJ E Q (.cond c x y) σ μ φ := fun a w ha hm => by
  subst hb
  cases b
  · exact wp_cond_false (ha.slots.ev hc) (h a w ha hm)
  · exact wp_cond_true (ha.slots.ev hc) (h a w ha hm)
theorem CJ_condF {c : Operand} {x y : Code} (hc : oev σ c = some (.bool false)) (hf : CJ E Q y σ μ φ) : CJ E Q (.cond c x y) σ μ φ := fun a w ha hm => wp_cond_false (ha.slots.ev hc) (hf a w ha hm)

theorem QJ_then {y : Code} (h : CJ E Q y σ μ φ) : QJ E (Exit.then (y.wp E.P Q) Q) .normal σ μ φ := fun a w ha hm => h a w ha hm
theorem QJ_then_ret {K : Act → World → Prop} (h : QJ E Q .ret σ μ φ) : QJ E (Exit.then K Q) .ret σ μ φ := fun a w ha hm => h a w ha hm
theorem QJ_then_exit {K : Act → World → Prop} {id : Nat} (h : QJ E Q (.exit id) σ μ φ) : QJ E (Exit.then K Q) (.exit id) σ μ φ := fun a w ha hm => h a w ha hm
theorem QJ_in_ret {i : Nat} (h : QJ E Q .ret σ μ φ) : QJ E (Exit.inBlock i Q) .ret σ μ φ := fun a w ha hm => h a w ha hm
theorem QJ_in_normal {i : Nat} (h : QJ E Q .normal σ μ φ) : QJ E (Exit.inBlock i Q) .normal σ μ φ := fun a w ha hm => h a w ha hm
theorem QJ_in_exit {i : Nat} (h : QJ E Q .normal σ μ φ) : QJ E (Exit.inBlock i Q) (.exit i) σ μ φ := fun a w ha hm => by
  show (if i = i then Q .normal a w else Q (.exit i) a w)
  rw [if_pos rfl]
  exact h a w ha hm
theorem QJ_in_exit_ne {i j : Nat} (hne : Nat.beq j i = false) (h : QJ E Q (.exit j) σ μ φ) : QJ E (Exit.inBlock i Q) (.exit j) σ μ φ := fun a w ha hm => by
  show (if j = i then Q .normal a w else Q (.exit j) a w)
  rw [if_neg (fun e => by rw [e, Nat.beq_refl] at hne; cases hne)]
  exact h a w ha hm

/-! ### weakening -/
theorem OKm.weak {μ' φ' : List Res} {w : World} (h : OKm E μ φ w) {μr : List Res} (hp : List.Perm μ (μ' ++ μr)) (hf : ∀ r, r ∈ φ' → r ∈ φ) : OKm E μ' φ' w := by
  refine ⟨h.keeps, ?_⟩
  obtain ⟨S, T, h1, h2, h3, h4, h5, h6⟩ := h.mem
  obtain ⟨S1, S2, g1, _, _, gs⟩ := (h1.perm hp).split
  exact ⟨S1, T, g1, fun r hr => h2 r (hf r hr), fun k hk => h3 k ((gs k).2 (.inl hk)), fun k hk => h4 k ((gs k).2 (.inl hk)), h5, h6⟩
theorem CJ_weak {c : Code} {σ' : List (Nat × Value)} {μ' φ' μr : List Res} (hs : AllLk σ σ') (hp : List.Perm μ (μ' ++ μr)) (hf : ∀ r, r ∈ φ' → r ∈ φ) (h : CJ E Q c σ' μ' φ') : CJ E Q c σ μ φ :=
  fun a w ha hm => h a w ⟨ha.defs, ha.siz, ha.slots.weak hs⟩ (hm.weak hp hf)
theorem QJ_weak {e : Exit} {σ' : List (Nat × Value)} {μ' φ' μr : List Res} (hs : AllLk σ σ') (hp : List.Perm μ (μ' ++ μr)) (hf : ∀ r, r ∈ φ' → r ∈ φ) (h : QJ E Q e σ' μ' φ') : QJ E Q e σ μ φ :=
  fun a w ha hm => h a w ⟨ha.defs, ha.siz, ha.slots.weak hs⟩ (hm.weak hp hf)
/-- an own resource is from now on a fact -/
theorem OKm.freeze {r : Res} {w : World} (h : OKm E (r :: μ) φ w) : OKm E μ (r :: φ) w := by
  refine ⟨h.keeps, ?_⟩
  obtain ⟨S, T, ⟨S1, S2, g1, g2, gd, gs⟩, h2, h3, h4, h5, h6⟩ := h.mem
  refine ⟨S2, fun k => T k ∨ S1 k, g2, ?_, ?_, fun k hk => h4 k ((gs k).2 (.inr hk)), ?_, ?_⟩
  · intro r' hr'
    rcases List.mem_cons.1 hr' with rfl | hr'
    · exact ⟨S1, g1, fun k hk => .inr hk⟩
    · obtain ⟨S', a, b⟩ := h2 r' hr'
      exact ⟨S', a, fun k hk => .inl (b k hk)⟩
  · rintro k hk (hT | hS)
    · exact h3 k ((gs k).2 (.inr hk)) hT
    · exact gd k hS hk
  · rintro k (hT | hS)
    · exact h5 k hT
    · exact .inr (h4 k ((gs k).2 (.inl hS)))
  · rintro k (hT | hS)
    · exact h6 k hT
    · exact r.lt g1 hS
theorem CJ_freeze {r : Res} {c : Code} (h : CJ E Q c σ μ (r :: φ)) : CJ E Q c σ (r :: μ) φ := fun a w ha hm => h a w ha hm.freeze
theorem LJ_freeze {r : Res} (h : LJ E Q ops rest σ μ (r :: φ)) : LJ E Q ops rest σ (r :: μ) φ := fun a w ha hm => h a w ha hm.freeze
theorem QJ_freeze {r : Res} {e : Exit} (h : QJ E Q e σ μ (r :: φ)) : QJ E Q e σ (r :: μ) φ := fun a w ha hm => h a w ha hm.freeze
theorem LJ_weak {σ' : List (Nat × Value)} {μ' φ' μr : List Res} (hs : AllLk σ σ') (hp : List.Perm μ (μ' ++ μr)) (hf : ∀ r, r ∈ φ' → r ∈ φ) (h : LJ E Q ops rest σ' μ' φ') : LJ E Q ops rest σ μ φ :=
  fun a w ha hm => h a w ⟨ha.defs, ha.siz, ha.slots.weak hs⟩ (hm.weak hp hf)

/-- another resource in the place of one, if it follows of the world -/
theorem OKm.turn {μ' φ' : List Res} {w : World} (h : OKm E μ φ w) (hs : ∀ S, Sep w μ S → Sep w μ' S) (hf : ∀ T, Fac w φ T → Fac w φ' T) : OKm E μ' φ' w := by
  refine ⟨h.keeps, ?_⟩
  obtain ⟨S, T, h1, h2, h3, h4, h5, h6⟩ := h.mem
  exact ⟨S, T, hs S h1, hf T h2, h3, h4, h5, h6⟩

/-! ### a loop -/
structure St where
  σ : List (Nat × Value)
  μ : List Res
  φ : List Res

open Classical in
theorem CJ_loop {ι : Type} (F : ι → St) (I : ι → Prop) (m : ι → Nat) {c : Code} (i0 : ι) {μr : List Res} (h0 : I i0) (hs : AllLk σ (F i0).σ) (hp : List.Perm μ ((F i0).μ ++ μr)) (hf : ∀ r, r ∈ (F i0).φ → r ∈ φ)
    (h : ∀ i, I i → CJ E (Exit.then (fun a' w' => ∃ j, I j ∧ m j < m i ∧ OKa E (F j).σ a' ∧ OKm E (F j).μ (F j).φ w') Q) c (F i).σ (F i).μ (F i).φ) : CJ E Q (.loop c) σ μ φ := fun a w ha hm => by
  have key : ∀ (a : Act) (w : World), (∃ i, I i ∧ OKa E (F i).σ a ∧ OKm E (F i).μ (F i).φ w) → ∃ n, ∃ i, I i ∧ m i = n ∧ OKa E (F i).σ a ∧ OKm E (F i).μ (F i).φ w := fun a w ⟨i, h1, h2, h3⟩ => ⟨m i, i, h1, rfl, h2, h3⟩
  have hmin : ∀ (a : Act) (w : World), (∃ n, ∃ i, I i ∧ m i = n ∧ OKa E (F i).σ a ∧ OKm E (F i).μ (F i).φ w) → ∃ n, (∃ i, I i ∧ m i = n ∧ OKa E (F i).σ a ∧ OKm E (F i).μ (F i).φ w) ∧ ∀ n', (∃ i, I i ∧ m i = n' ∧ OKa E (F i).σ a ∧ OKm E (F i).μ (F i).φ w) → n ≤ n' := by
    intro a w ⟨n, hn⟩
    induction n using Nat.strongRecOn with
    | _ n ih =>
      by_cases hex : ∃ n', n' < n ∧ ∃ i, I i ∧ m i = n' ∧ OKa E (F i).σ a ∧ OKm E (F i).μ (F i).φ w
      · obtain ⟨n', hlt, hn'⟩ := hex
        exact ih n' hlt hn'
      · exact ⟨n, hn, fun n' hn' => Nat.le_of_not_lt fun hlt => hex ⟨n', hlt, hn'⟩⟩
  let μm : Act → World → Nat := fun a w => if hx : ∃ n, ∃ i, I i ∧ m i = n ∧ OKa E (F i).σ a ∧ OKm E (F i).μ (F i).φ w then (hmin a w hx).choose else 0
  have hμ : ∀ (a : Act) (w : World), (∃ i, I i ∧ OKa E (F i).σ a ∧ OKm E (F i).μ (F i).φ w) → (∃ i, I i ∧ m i = μm a w ∧ OKa E (F i).σ a ∧ OKm E (F i).μ (F i).φ w) ∧ ∀ i, I i → OKa E (F i).σ a → OKm E (F i).μ (F i).φ w → μm a w ≤ m i := by
    intro a w hx
    have hx' := key a w hx
    have hs := (hmin a w hx').choose_spec
    have e : μm a w = (hmin a w hx').choose := dif_pos hx'
    rw [e]
    exact ⟨hs.1, fun i h1 h2 h3 => hs.2 (m i) ⟨i, h1, rfl, h2, h3⟩⟩
  refine wp_loop (fun a w => ∃ i, I i ∧ OKa E (F i).σ a ∧ OKm E (F i).μ (F i).φ w) μm ⟨i0, h0, ⟨ha.defs, ha.siz, ha.slots.weak hs⟩, hm.weak hp hf⟩ ?_
  intro a w hI
  obtain ⟨⟨i, h1, h2, h3, h4⟩, _⟩ := hμ a w hI
  refine wp_mono (h i h1 a w h3 h4) ?_
  intro e a' w' q
  cases e with
  | normal =>
    obtain ⟨j, k1, k2, k3, k4⟩ := q
    have hJ : ∃ i, I i ∧ OKa E (F i).σ a' ∧ OKm E (F i).μ (F i).φ w' := ⟨j, k1, k3, k4⟩
    refine ⟨hJ, ?_⟩
    have := (hμ a' w' hJ).2 j k1 k3 k4
    omega
  | _ => exact q

theorem QJ_round {ι : Type} {F : ι → St} {I : ι → Prop} {m : ι → Nat} {i : ι} (j : ι) {μr : List Res} (hI : I j) (hm : m j < m i) (hs : AllLk σ (F j).σ) (hp : List.Perm μ ((F j).μ ++ μr)) (hf : ∀ r, r ∈ (F j).φ → r ∈ φ) :
    QJ E (Exit.then (fun a' w' => ∃ j, I j ∧ m j < m i ∧ OKa E (F j).σ a' ∧ OKm E (F j).μ (F j).φ w') Q) .normal σ μ φ := fun _ _ ha hk => ⟨j, hI, hm, ⟨ha.defs, ha.siz, ha.slots.weak hs⟩, hk.weak hp hf⟩

end
end Go.Proofs.Ytbanlhlggkdanaa
