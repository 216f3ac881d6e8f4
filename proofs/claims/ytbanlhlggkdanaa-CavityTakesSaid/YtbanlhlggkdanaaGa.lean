/- What the law CavityTakes needs. Part 1: the texts of Eng Ops Arr Sli Pha Allo Bui Rnd W1 Dig M1 W2 W3 M2 M3 M4. -/
import Derived.WalkKit
import Derived.WalkSpells
import Derived.WalkLawsBesides
import Derived.Deep.RegionHeld3
import Derived.Laws.Tables
import Derived.Laws.Small
import Derived.Laws.Cover1
import Derived.RangeFuncNested
import Derived.RangeFuncFrom
import Derived.RangeFuncLeaves
import Derived.OrdersIn
import Derived.TacticsIn
import Derived.Test.YtbanlhlggkdanaaRows
import Derived.Test.YtbanlhlggkdanaaShelf
import Derived.Laws.Externs
import Derived.Shelf.Spec.BitsCarry
set_option linter.unusedSimpArgs false
set_option linter.unusedVariables false
namespace Go.Proofs.Ytbanlhlggkdanaa
theorem m0 {α : Type} {a : α} {l : List α} : a ∈ a :: l := .head _
theorem m1 {α : Type} {a b0 : α} {l : List α} : a ∈ b0 :: a :: l := .tail _ (.head _)
theorem m2 {α : Type} {a b0 b1 : α} {l : List α} : a ∈ b0 :: b1 :: a :: l := .tail _ (.tail _ (.head _))
theorem m3 {α : Type} {a b0 b1 b2 : α} {l : List α} : a ∈ b0 :: b1 :: b2 :: a :: l := .tail _ (.tail _ (.tail _ (.head _)))
theorem m4 {α : Type} {a b0 b1 b2 b3 : α} {l : List α} : a ∈ b0 :: b1 :: b2 :: b3 :: a :: l := .tail _ (.tail _ (.tail _ (.tail _ (.head _))))
theorem m5 {α : Type} {a b0 b1 b2 b3 b4 : α} {l : List α} : a ∈ b0 :: b1 :: b2 :: b3 :: b4 :: a :: l := .tail _ (.tail _ (.tail _ (.tail _ (.tail _ (.head _)))))
theorem m6 {α : Type} {a b0 b1 b2 b3 b4 b5 : α} {l : List α} : a ∈ b0 :: b1 :: b2 :: b3 :: b4 :: b5 :: a :: l := .tail _ (.tail _ (.tail _ (.tail _ (.tail _ (.tail _ (.head _))))))
theorem m7 {α : Type} {a b0 b1 b2 b3 b4 b5 b6 : α} {l : List α} : a ∈ b0 :: b1 :: b2 :: b3 :: b4 :: b5 :: b6 :: a :: l := .tail _ (.tail _ (.tail _ (.tail _ (.tail _ (.tail _ (.tail _ (.head _)))))))
theorem m8 {α : Type} {a b0 b1 b2 b3 b4 b5 b6 b7 : α} {l : List α} : a ∈ b0 :: b1 :: b2 :: b3 :: b4 :: b5 :: b6 :: b7 :: a :: l := .tail _ (.tail _ (.tail _ (.tail _ (.tail _ (.tail _ (.tail _ (.tail _ (.head _))))))))
theorem m9 {α : Type} {a b0 b1 b2 b3 b4 b5 b6 b7 b8 : α} {l : List α} : a ∈ b0 :: b1 :: b2 :: b3 :: b4 :: b5 :: b6 :: b7 :: b8 :: a :: l := .tail _ (.tail _ (.tail _ (.tail _ (.tail _ (.tail _ (.tail _ (.tail _ (.tail _ (.head _)))))))))
theorem m10 {α : Type} {a b0 b1 b2 b3 b4 b5 b6 b7 b8 b9 : α} {l : List α} : a ∈ b0 :: b1 :: b2 :: b3 :: b4 :: b5 :: b6 :: b7 :: b8 :: b9 :: a :: l := .tail _ (.tail _ (.tail _ (.tail _ (.tail _ (.tail _ (.tail _ (.tail _ (.tail _ (.tail _ (.head _))))))))))
theorem m11 {α : Type} {a b0 b1 b2 b3 b4 b5 b6 b7 b8 b9 b10 : α} {l : List α} : a ∈ b0 :: b1 :: b2 :: b3 :: b4 :: b5 :: b6 :: b7 :: b8 :: b9 :: b10 :: a :: l := .tail _ (.tail _ (.tail _ (.tail _ (.tail _ (.tail _ (.tail _ (.tail _ (.tail _ (.tail _ (.tail _ (.head _)))))))))))
theorem m12 {α : Type} {a b0 b1 b2 b3 b4 b5 b6 b7 b8 b9 b10 b11 : α} {l : List α} : a ∈ b0 :: b1 :: b2 :: b3 :: b4 :: b5 :: b6 :: b7 :: b8 :: b9 :: b10 :: b11 :: a :: l := .tail _ (.tail _ (.tail _ (.tail _ (.tail _ (.tail _ (.tail _ (.tail _ (.tail _ (.tail _ (.tail _ (.tail _ (.head _))))))))))))
theorem m13 {α : Type} {a b0 b1 b2 b3 b4 b5 b6 b7 b8 b9 b10 b11 b12 : α} {l : List α} : a ∈ b0 :: b1 :: b2 :: b3 :: b4 :: b5 :: b6 :: b7 :: b8 :: b9 :: b10 :: b11 :: b12 :: a :: l := .tail _ (.tail _ (.tail _ (.tail _ (.tail _ (.tail _ (.tail _ (.tail _ (.tail _ (.tail _ (.tail _ (.tail _ (.tail _ (.head _)))))))))))))
theorem m14 {α : Type} {a b0 b1 b2 b3 b4 b5 b6 b7 b8 b9 b10 b11 b12 b13 : α} {l : List α} : a ∈ b0 :: b1 :: b2 :: b3 :: b4 :: b5 :: b6 :: b7 :: b8 :: b9 :: b10 :: b11 :: b12 :: b13 :: a :: l := .tail _ (.tail _ (.tail _ (.tail _ (.tail _ (.tail _ (.tail _ (.tail _ (.tail _ (.tail _ (.tail _ (.tail _ (.tail _ (.tail _ (.head _))))))))))))))
theorem m15 {α : Type} {a b0 b1 b2 b3 b4 b5 b6 b7 b8 b9 b10 b11 b12 b13 b14 : α} {l : List α} : a ∈ b0 :: b1 :: b2 :: b3 :: b4 :: b5 :: b6 :: b7 :: b8 :: b9 :: b10 :: b11 :: b12 :: b13 :: b14 :: a :: l := .tail _ (.tail _ (.tail _ (.tail _ (.tail _ (.tail _ (.tail _ (.tail _ (.tail _ (.tail _ (.tail _ (.tail _ (.tail _ (.tail _ (.tail _ (.head _)))))))))))))))
theorem m16 {α : Type} {a b0 b1 b2 b3 b4 b5 b6 b7 b8 b9 b10 b11 b12 b13 b14 b15 : α} {l : List α} : a ∈ b0 :: b1 :: b2 :: b3 :: b4 :: b5 :: b6 :: b7 :: b8 :: b9 :: b10 :: b11 :: b12 :: b13 :: b14 :: b15 :: a :: l := .tail _ (.tail _ (.tail _ (.tail _ (.tail _ (.tail _ (.tail _ (.tail _ (.tail _ (.tail _ (.tail _ (.tail _ (.tail _ (.tail _ (.tail _ (.tail _ (.head _))))))))))))))))
theorem m17 {α : Type} {a b0 b1 b2 b3 b4 b5 b6 b7 b8 b9 b10 b11 b12 b13 b14 b15 b16 : α} {l : List α} : a ∈ b0 :: b1 :: b2 :: b3 :: b4 :: b5 :: b6 :: b7 :: b8 :: b9 :: b10 :: b11 :: b12 :: b13 :: b14 :: b15 :: b16 :: a :: l := .tail _ (.tail _ (.tail _ (.tail _ (.tail _ (.tail _ (.tail _ (.tail _ (.tail _ (.tail _ (.tail _ (.tail _ (.tail _ (.tail _ (.tail _ (.tail _ (.tail _ (.head _)))))))))))))))))
theorem m18 {α : Type} {a b0 b1 b2 b3 b4 b5 b6 b7 b8 b9 b10 b11 b12 b13 b14 b15 b16 b17 : α} {l : List α} : a ∈ b0 :: b1 :: b2 :: b3 :: b4 :: b5 :: b6 :: b7 :: b8 :: b9 :: b10 :: b11 :: b12 :: b13 :: b14 :: b15 :: b16 :: b17 :: a :: l := .tail _ (.tail _ (.tail _ (.tail _ (.tail _ (.tail _ (.tail _ (.tail _ (.tail _ (.tail _ (.tail _ (.tail _ (.tail _ (.tail _ (.tail _ (.tail _ (.tail _ (.tail _ (.head _))))))))))))))))))
theorem m19 {α : Type} {a b0 b1 b2 b3 b4 b5 b6 b7 b8 b9 b10 b11 b12 b13 b14 b15 b16 b17 b18 : α} {l : List α} : a ∈ b0 :: b1 :: b2 :: b3 :: b4 :: b5 :: b6 :: b7 :: b8 :: b9 :: b10 :: b11 :: b12 :: b13 :: b14 :: b15 :: b16 :: b17 :: b18 :: a :: l := .tail _ (.tail _ (.tail _ (.tail _ (.tail _ (.tail _ (.tail _ (.tail _ (.tail _ (.tail _ (.tail _ (.tail _ (.tail _ (.tail _ (.tail _ (.tail _ (.tail _ (.tail _ (.tail _ (.head _)))))))))))))))))))
theorem m20 {α : Type} {a b0 b1 b2 b3 b4 b5 b6 b7 b8 b9 b10 b11 b12 b13 b14 b15 b16 b17 b18 b19 : α} {l : List α} : a ∈ b0 :: b1 :: b2 :: b3 :: b4 :: b5 :: b6 :: b7 :: b8 :: b9 :: b10 :: b11 :: b12 :: b13 :: b14 :: b15 :: b16 :: b17 :: b18 :: b19 :: a :: l := .tail _ (.tail _ (.tail _ (.tail _ (.tail _ (.tail _ (.tail _ (.tail _ (.tail _ (.tail _ (.tail _ (.tail _ (.tail _ (.tail _ (.tail _ (.tail _ (.tail _ (.tail _ (.tail _ (.tail _ (.head _))))))))))))))))))))
theorem m21 {α : Type} {a b0 b1 b2 b3 b4 b5 b6 b7 b8 b9 b10 b11 b12 b13 b14 b15 b16 b17 b18 b19 b20 : α} {l : List α} : a ∈ b0 :: b1 :: b2 :: b3 :: b4 :: b5 :: b6 :: b7 :: b8 :: b9 :: b10 :: b11 :: b12 :: b13 :: b14 :: b15 :: b16 :: b17 :: b18 :: b19 :: b20 :: a :: l := .tail _ (.tail _ (.tail _ (.tail _ (.tail _ (.tail _ (.tail _ (.tail _ (.tail _ (.tail _ (.tail _ (.tail _ (.tail _ (.tail _ (.tail _ (.tail _ (.tail _ (.tail _ (.tail _ (.tail _ (.tail _ (.head _)))))))))))))))))))))
theorem m22 {α : Type} {a b0 b1 b2 b3 b4 b5 b6 b7 b8 b9 b10 b11 b12 b13 b14 b15 b16 b17 b18 b19 b20 b21 : α} {l : List α} : a ∈ b0 :: b1 :: b2 :: b3 :: b4 :: b5 :: b6 :: b7 :: b8 :: b9 :: b10 :: b11 :: b12 :: b13 :: b14 :: b15 :: b16 :: b17 :: b18 :: b19 :: b20 :: b21 :: a :: l := .tail _ (.tail _ (.tail _ (.tail _ (.tail _ (.tail _ (.tail _ (.tail _ (.tail _ (.tail _ (.tail _ (.tail _ (.tail _ (.tail _ (.tail _ (.tail _ (.tail _ (.tail _ (.tail _ (.tail _ (.tail _ (.tail _ (.head _))))))))))))))))))))))
theorem m23 {α : Type} {a b0 b1 b2 b3 b4 b5 b6 b7 b8 b9 b10 b11 b12 b13 b14 b15 b16 b17 b18 b19 b20 b21 b22 : α} {l : List α} : a ∈ b0 :: b1 :: b2 :: b3 :: b4 :: b5 :: b6 :: b7 :: b8 :: b9 :: b10 :: b11 :: b12 :: b13 :: b14 :: b15 :: b16 :: b17 :: b18 :: b19 :: b20 :: b21 :: b22 :: a :: l := .tail _ (.tail _ (.tail _ (.tail _ (.tail _ (.tail _ (.tail _ (.tail _ (.tail _ (.tail _ (.tail _ (.tail _ (.tail _ (.tail _ (.tail _ (.tail _ (.tail _ (.tail _ (.tail _ (.tail _ (.tail _ (.tail _ (.tail _ (.head _)))))))))))))))))))))))
open Go.RowKit
structure Res where
 p : World → (Nat → Prop) → Prop
 loc : ∀ {w w' : World} {S : Nat → Prop}, p w S → (∀ k, S k → w'.heap[k]? = w.heap[k]?) → p w' S
 lt : ∀ {w : World} {S : Nat → Prop} {k : Nat}, p w S → S k → k < w.heap.size
def Sep (w : World) : List Res → (Nat → Prop) → Prop
 | [], S => ∀ k, ¬ S k
 | r :: rs, S => ∃ S1 S2 : Nat → Prop, r.p w S1 ∧ Sep w rs S2 ∧ (∀ k, S1 k → ¬ S2 k) ∧ ∀ k, S k ↔ (S1 k ∨ S2 k)
def Fac (w : World) (φ : List Res) (T : Nat → Prop) : Prop := ∀ r, r ∈ φ → ∃ S : Nat → Prop, r.p w S ∧ ∀ k, S k → T k
def Hold (w : World) (ρ : List Res) : Prop := ∀ r, r ∈ ρ → ∃ S : Nat → Prop, r.p w S
structure Keeps (S : Nat → Prop) (w w' : World) : Prop where
 os : w'.os = w.os
 tape : w'.tape = w.tape
 output : w'.output = w.output
 size : w.heap.size ≤ w'.heap.size
 block : ∀ k, k < w.heap.size → ¬ S k → w'.heap[k]? = w.heap[k]?
theorem Keeps.refl (S : Nat → Prop) (w : World) : Keeps S w w := ⟨rfl, rfl, rfl, Nat.le_refl _, fun _ _ _ => rfl⟩
theorem Keeps.trans {S S1 : Nat → Prop} {w w1 w2 : World} (h : Keeps S w w1) (h1 : Keeps S1 w1 w2) (hs : ∀ k, S1 k → S k ∨ w.heap.size ≤ k) : Keeps S w w2 :=
 ⟨h1.os.trans h.os, h1.tape.trans h.tape, h1.output.trans h.output, Nat.le_trans h.size h1.size, fun k hk hn =>
  (h1.block k (Nat.lt_of_lt_of_le hk h.size) (fun hh => by rcases hs k hh with h2 | h2; exact hn h2; omega)).trans (h.block k hk hn)⟩
theorem Keeps.below {S : Nat → Prop} {w w' : World} (h : Keeps S w w') (hS : ∀ k, ¬ S k) : Below w.heap.size w w' :=
 ⟨h.os, h.tape, h.output, h.size, fun k hk => h.block k hk (hS k)⟩
theorem Keeps.drew (w : World) (S : Nat → Prop) : Keeps S w w.drew := ⟨rfl, rfl, rfl, Nat.le_refl _, fun _ _ _ => rfl⟩
theorem Keeps.alloc (w : World) (o : Obj) (S : Nat → Prop) : Keeps S w (w.alloc o) :=
 ⟨rfl, rfl, rfl, by simp, fun k hk _ => Below.heap_alloc w o k hk⟩
theorem Keeps.mono {S S' : Nat → Prop} {w w' : World} (h : Keeps S w w') (hs : ∀ k, S k → S' k) : Keeps S' w w' :=
 ⟨h.os, h.tape, h.output, h.size, fun k hk hn => h.block k hk (fun hh => hn (hs k hh))⟩
theorem Sep.keep {w w' : World} : ∀ {μ : List Res} {S : Nat → Prop}, Sep w μ S → (∀ k, S k → w'.heap[k]? = w.heap[k]?) → Sep w' μ S
 | [], _, h, _ => h
 | _ :: _, _, ⟨S1, S2, h1, h2, hd, hs⟩, hk => ⟨S1, S2, Res.loc _ h1 (fun k h => hk k ((hs k).2 (.inl h))), Sep.keep h2 (fun k h => hk k ((hs k).2 (.inr h))), hd, hs⟩
theorem Sep.lt {w : World} : ∀ {μ : List Res} {S : Nat → Prop} {k : Nat}, Sep w μ S → S k → k < w.heap.size
 | [], _, _, h, hk => absurd hk (h _)
 | _ :: _, _, _, ⟨_, _, h1, h2, _, hs⟩, hk => ((hs _).1 hk).elim (fun h => Res.lt _ h1 h) (fun h => Sep.lt h2 h)
theorem Sep.mem {w : World} : ∀ {μ : List Res} {S : Nat → Prop} {r : Res}, Sep w μ S → r ∈ μ → ∃ S1 : Nat → Prop, r.p w S1 ∧ ∀ k, S1 k → S k
 | _ :: _, _, _, ⟨S1, _, h1, _, _, hs⟩, .head _ => ⟨S1, h1, fun k h => (hs k).2 (.inl h)⟩
 | _ :: _, _, _, ⟨_, _, _, h2, _, hs⟩, .tail _ hm => let ⟨S1, h1, hk⟩ := Sep.mem h2 hm; ⟨S1, h1, fun k h => (hs k).2 (.inr (hk k h))⟩
theorem Sep.app {w : World} : ∀ {μ μ' : List Res} {S S' : Nat → Prop}, Sep w μ S → Sep w μ' S' → (∀ k, S k → ¬ S' k) → Sep w (μ ++ μ') (fun k => S k ∨ S' k)
 | [], μ', S, S', h, h', _ => by
  have e : (fun k => S k ∨ S' k) = S' := funext fun k => propext ⟨fun hh => hh.resolve_left (h k), .inr⟩
  rw [e]; exact h'
 | _ :: _, _, S, S', ⟨S1, S2, h1, h2, hd, hs⟩, h', hdd =>
  ⟨S1, fun k => S2 k ∨ S' k, h1, Sep.app h2 h' (fun k hk => hdd k ((hs k).2 (.inr hk))), fun k hk hh => hh.elim (hd k hk) (hdd k ((hs k).2 (.inl hk))), fun k => by
   show (S k ∨ S' k) ↔ (S1 k ∨ (S2 k ∨ S' k))
   rw [hs k, or_assoc]⟩
theorem Sep.split {w : World} : ∀ {μ μ' : List Res} {S : Nat → Prop}, Sep w (μ ++ μ') S → ∃ S1 S2 : Nat → Prop, Sep w μ S1 ∧ Sep w μ' S2 ∧ (∀ k, S1 k → ¬ S2 k) ∧ ∀ k, S k ↔ (S1 k ∨ S2 k)
 | [], _, S, h => ⟨fun _ => False, S, fun _ h => h, h, fun _ h => h.elim, fun _ => ⟨.inr, fun h => h.resolve_left id⟩⟩
 | _ :: _, _, _, ⟨S1, S2, h1, h2, hd, hs⟩ => by
  obtain ⟨T1, T2, g1, g2, gd, gs⟩ := Sep.split h2
  refine ⟨fun k => S1 k ∨ T1 k, T2, ⟨S1, T1, h1, g1, fun k a b => hd k a ((gs k).2 (.inl b)), fun _ => Iff.rfl⟩, g2, fun k a b => ?_, fun k => ?_⟩
  ·rcases a with a | a
   ·exact hd k a ((gs k).2 (.inr b))
   ·exact gd k a b
  ·rw [hs k, gs k, or_assoc]
theorem Sep.perm {w : World} {μ μ' : List Res} (hp : List.Perm μ μ') : ∀ {S : Nat → Prop}, Sep w μ S → Sep w μ' S := by
 induction hp with
 | nil => exact id
 | cons x _ ih => exact fun ⟨S1, S2, h1, h2, hd, hs⟩ => ⟨S1, S2, h1, ih h2, hd, hs⟩
 | swap x y l =>
  rintro S ⟨S1, S2, h1, ⟨T1, T2, g1, g2, gd, gs⟩, hd, hs⟩
  refine ⟨T1, fun k => S1 k ∨ T2 k, g1, ⟨S1, T2, h1, g2, fun k a b => hd k a ((gs k).2 (.inr b)), fun _ => Iff.rfl⟩, fun k a b => ?_, fun k => ?_⟩
  ·rcases b with b | b
   ·exact hd k b ((gs k).2 (.inl a))
   ·exact gd k a b
  ·rw [hs k, gs k]; exact or_left_comm
 | trans _ _ ih1 ih2 => exact fun h => ih2 (ih1 h)
def lk (t : Nat) : List (Nat × Value) → Option Value
 | [] => none
 | (s, v) :: r => bif Nat.beq t s then some v else lk t r
def Slots (σ : List (Nat × Value)) (a : Act) : Prop := ∀ t v, lk t σ = some v → a.tmps[t]? = some v
def oev (σ : List (Nat × Value)) : Operand → Option Value
 | .tmp t => lk t σ
 | .const v => some v
 | .global g => some (.pointer (some ⟨g, 0, none⟩))
 | .func f => some (.func (.func f) #[] #[])
def oevs (σ : List (Nat × Value)) : List Operand → Option (List Value)
 | [] => some []
 | x :: xs => match oev σ x, oevs σ xs with
  | some v, some vs => some (v :: vs)
  | _, _ => none
theorem Slots.ev {σ : List (Nat × Value)} {a : Act} (h : Slots σ a) {x : Operand} {v : Value} (hx : oev σ x = some v) : a.eval x = v := by
 cases x with
 | tmp t =>
  have := h t v hx
  simp [Act.eval, this]
 | const v' => simpa [oev, Act.eval] using hx
 | global g => simpa [oev, Act.eval] using hx
 | func f => simpa [oev, Act.eval] using hx
theorem Slots.evs {σ : List (Nat × Value)} {a : Act} (h : Slots σ a) : ∀ {xs : List Operand} {vs : List Value}, oevs σ xs = some vs → xs.map a.eval = vs
 | [], vs, hx => by simpa [oevs] using hx
 | x :: xs, vs, hx => by
  simp only [oevs] at hx
  cases h1 : oev σ x with
  | none => rw [h1] at hx; simp at hx
  | some v =>
   cases h2 : oevs σ xs with
   | none => rw [h1, h2] at hx; simp at hx
   | some us =>
    rw [h1, h2] at hx
    simp only [Option.some.injEq] at hx
    subst hx
    simp [h.ev h1, h.evs h2]
theorem Slots.put {σ : List (Nat × Value)} {a : Act} (h : Slots σ a) {d : Nat} (hd : d < a.tmps.size) (v : Value) : Slots ((d, v) :: σ) (a.put (some d) v) := by
 intro t u hu
 simp only [lk] at hu
 by_cases e : t = d
 ·subst e
  simp only [Nat.beq_refl, cond_true, Option.some.injEq] at hu
  subst hu
  simp [Act.put, hd]
 ·have hb : Nat.beq t d = false := by rw [Bool.eq_false_iff]; intro hh; exact e (Nat.eq_of_beq_eq_true hh)
  rw [hb] at hu
  simp only [cond_false] at hu
  have := h t u hu
  simp only [Act.put]
  rw [Array.getElem?_setIfInBounds_ne (Ne.symm e)]
  exact this
theorem Act.size_put (a : Act) (d : Option Tmp) (v : Value) : (a.put d v).tmps.size = a.tmps.size := by cases d <;> simp [Act.put]
theorem Act.defers_put (a : Act) (d : Option Tmp) (v : Value) : (a.put d v).defers = a.defers := by cases d <;> rfl
def AllLk (σ : List (Nat × Value)) : List (Nat × Value) → Prop
 | [] => True
 | (s, v) :: r => lk s σ = some v ∧ AllLk σ r
theorem Slots.weak {σ : List (Nat × Value)} {a : Act} (h : Slots σ a) : ∀ {σ' : List (Nat × Value)}, AllLk σ σ' → Slots σ' a
 | [], _, t, v, hv => by simp [lk] at hv
 | (s, u) :: r, ⟨h1, h2⟩, t, v, hv => by
  simp only [lk] at hv
  cases hb : Nat.beq t s with
  | true =>
   rw [hb] at hv
   simp only [cond_true, Option.some.injEq] at hv
   have := Nat.eq_of_beq_eq_true hb
   subst this; subst hv
   exact h _ _ h1
  | false =>
   rw [hb] at hv
   simp only [cond_false] at hv
   exact h.weak h2 t v hv
structure Env where
 P : Program
 w0 : World
 S0 : Nat → Prop
 T0 : Nat → Prop
 N : Nat
 ds : List Deferred
structure OKm (E : Env) (μ φ : List Res) (w : World) : Prop where
 keeps : Keeps E.S0 E.w0 w
 mem : ∃ S T : Nat → Prop, Sep w μ S ∧ Fac w φ T ∧ (∀ k, S k → ¬ T k) ∧ (∀ k, S k → E.S0 k ∨ E.w0.heap.size ≤ k) ∧ (∀ k, T k → E.T0 k ∨ E.S0 k ∨ E.w0.heap.size ≤ k) ∧ ∀ k, T k → k < w.heap.size
structure OKa (E : Env) (σ : List (Nat × Value)) (a : Act) : Prop where
 defs : a.defers = E.ds
 siz : a.tmps.size = E.N
 slots : Slots σ a
abbrev Qt := Exit → Act → World → Prop
def CJ (E : Env) (Q : Qt) (c : Code) (σ : List (Nat × Value)) (μ φ : List Res) : Prop := ∀ a w, OKa E σ a → OKm E μ φ w → c.wp E.P Q a w
def LJ (E : Env) (Q : Qt) (ops : Array Oper) (l : List Oper) (σ : List (Nat × Value)) (μ φ : List Res) : Prop := ∀ a w, OKa E σ a → OKm E μ φ w → wpList E.P ops Q l a w
def QJ (E : Env) (Q : Qt) (e : Exit) (σ : List (Nat × Value)) (μ φ : List Res) : Prop := ∀ a w, OKa E σ a → OKm E μ φ w → Q e a w
def YJ (E : Env) (op : Op) (ty : TypeId) (σ : List (Nat × Value)) (μ φ : List Res) (v : Value) : Prop :=
 ∀ a w d pos af g, Slots σ a → Hold w μ → Hold w φ → (execOp a.eval ⟨d, op, ty, pos, af, g⟩).run E.P w = .ok (.value v) w
def OJ (E : Env) (op : Op) (ty : TypeId) (σ : List (Nat × Value)) (μ φ : List Res) (X : Value → List Res → List Res → Prop) : Prop :=
 ∀ a w d pos af g K Q, Slots σ a → OKm E μ φ w → (∀ v μ' φ' w', X v μ' φ' → OKm E μ' φ' w' → K (a.put d v) w') → Oper.wp E.P ⟨d, op, ty, pos, af, g⟩ a w K Q
theorem OKm.hold {E : Env} {μ φ : List Res} {w : World} (h : OKm E μ φ w) : Hold w μ ∧ Hold w φ := by
 obtain ⟨S, T, hS, hT, _⟩ := h.mem
 exact ⟨fun r hr => let ⟨S1, h1, _⟩ := hS.mem hr; ⟨S1, h1⟩, fun r hr => let ⟨S1, h1, _⟩ := hT r hr; ⟨S1, h1⟩⟩
theorem OKa.put {E : Env} {σ : List (Nat × Value)} {a : Act} (h : OKa E σ a) {d : Nat} (hd : Nat.blt d E.N = true) (v : Value) : OKa E ((d, v) :: σ) (a.put (some d) v) :=
 ⟨by rw [Act.defers_put]; exact h.defs, by rw [Act.size_put]; exact h.siz, h.slots.put (by rw [h.siz]; exact Nat.le_of_ble_eq_true hd) v⟩
def grd (ops : Array Oper) (σ : List (Nat × Value)) : Option (Nat × Bool) → Option Bool
 | none => some true
 | some (j, want) => match (ops[j]?).bind (·.dst) with
  | some t => match lk t σ with
   | some (.bool b) => some (b == want)
   | some _ => some false
   | none => none
  | none => none
theorem grd_wanted {E : Env} {ops : Array Oper} {σ : List (Nat × Value)} {a : Act} (h : OKa E σ a) {o : Oper} {b : Bool} (hg : grd ops σ o.guard = some b) : Region.wanted o (yielded ops a.tmps) = b := by
 unfold Region.wanted
 cases hog : o.guard with
 | none => rw [hog] at hg; simpa [grd] using hg
 | some p =>
  obtain ⟨j, want⟩ := p
  rw [hog] at hg
  simp only [grd] at hg
  cases ht : (ops[j]?).bind (·.dst) with
  | none => rw [ht] at hg; simp at hg
  | some t =>
   rw [ht] at hg
   simp only at hg
   cases hl : lk t σ with
   | none => rw [hl] at hg; simp at hg
   | some v =>
    rw [hl] at hg
    have h2 := h.slots t _ hl
    cases v with
    | bool c =>
     simp at hg
     have hy : yielded ops a.tmps j = some c := by
      unfold yielded
      rw [ht, Option.bind_some, h2]
     simp only [hy, ← hg]
     cases c <;> cases want <;> rfl
    | _ =>
     simp at hg
     have hy : yielded ops a.tmps j = none := by
      unfold yielded
      rw [ht, Option.bind_some, h2]
     simp only [hy, hg]
     cases want <;> rfl
section
variable {E : Env} {Q : Qt} {ops : Array Oper} {rest : List Oper} {σ : List (Nat × Value)} {μ φ : List Res}
theorem LJ_nil (h : QJ E Q .normal σ μ φ) : LJ E Q ops [] σ μ φ := fun a w ha hm => h a w ha hm
theorem LJ_y {d : Tmp} {op : Op} {ty : TypeId} {pos : String} {af : Array Edge} {g : Option (Nat × Bool)} {v : Value} (hg : grd ops σ g = some true) (hd : Nat.blt d E.N = true)
  (hy : YJ E op ty σ μ φ v) (h : LJ E Q ops rest ((d, v) :: σ) μ φ) : LJ E Q ops (⟨some d, op, ty, pos, af, g⟩ :: rest) σ μ φ := fun a w ha hm => by
 unfold wpList
 rw [if_pos (grd_wanted (o := ⟨some d, op, ty, pos, af, g⟩) ha hg)]
 refine .inl ?_
 unfold Oper.wp
 rw [hy a w (some d) pos af g ha.slots hm.hold.1 hm.hold.2, Oper.upon_value]
 exact h _ _ (ha.put hd v) hm
theorem LJ_skip {d : Tmp} {op : Op} {ty : TypeId} {pos : String} {af : Array Edge} {g : Option (Nat × Bool)} (hg : grd ops σ g = some false) (hd : Nat.blt d E.N = true)
  (h : LJ E Q ops rest ((d, undef) :: σ) μ φ) : LJ E Q ops (⟨some d, op, ty, pos, af, g⟩ :: rest) σ μ φ := fun a w ha hm => by
 unfold wpList
 rw [if_neg (by rw [grd_wanted (o := ⟨some d, op, ty, pos, af, g⟩) ha hg]; simp)]
 exact h _ _ (ha.put hd undef) hm
theorem LJ_o {d : Tmp} {op : Op} {ty : TypeId} {pos : String} {af : Array Edge} {g : Option (Nat × Bool)} {X : Value → List Res → List Res → Prop} (hg : grd ops σ g = some true) (hd : Nat.blt d E.N = true)
  (ho : OJ E op ty σ μ φ X) (h : ∀ v μ' φ', X v μ' φ' → LJ E Q ops rest ((d, v) :: σ) μ' φ') : LJ E Q ops (⟨some d, op, ty, pos, af, g⟩ :: rest) σ μ φ := fun a w ha hm => by
 unfold wpList
 rw [if_pos (grd_wanted (o := ⟨some d, op, ty, pos, af, g⟩) ha hg)]
 exact .inl (ho a w _ _ _ _ _ _ ha.slots hm fun v μ' φ' w' hx hm' => h v μ' φ' hx _ _ (ha.put hd v) hm')
theorem LJ_o0 {op : Op} {ty : TypeId} {pos : String} {af : Array Edge} {g : Option (Nat × Bool)} {X : Value → List Res → List Res → Prop} (hg : grd ops σ g = some true)
  (ho : OJ E op ty σ μ φ X) (h : ∀ v μ' φ', X v μ' φ' → LJ E Q ops rest σ μ' φ') : LJ E Q ops (⟨none, op, ty, pos, af, g⟩ :: rest) σ μ φ := fun a w ha hm => by
 unfold wpList
 rw [if_pos (grd_wanted (o := ⟨none, op, ty, pos, af, g⟩) ha hg)]
 exact .inl (ho a w _ _ _ _ _ _ ha.slots hm fun v μ' φ' w' hx hm' => h v μ' φ' hx _ _ ha hm')
theorem OKm.drew {w : World} (hm : OKm E μ φ w) : OKm E μ φ w.drew :=
 ⟨⟨hm.keeps.os, hm.keeps.tape, hm.keeps.output, hm.keeps.size, hm.keeps.block⟩, by
  obtain ⟨S, T, h1, h2, h3, h4, h5, h6⟩ := hm.mem
  exact ⟨S, T, h1.keep (fun _ _ => rfl), fun r hr => let ⟨S1, a, b⟩ := h2 r hr; ⟨S1, r.loc a (fun _ _ => rfl), b⟩, h3, h4, h5, h6⟩⟩
def AJ (E : Env) (Q : Qt) (ops : Array Oper) (ml pl : List Res) (fuel : Nat) (listed : Array Bool) (σ : List (Nat × Value)) (μ φ : List Res) : Prop :=
 Region.noSelect ops = true → (∀ c a w d v, Q (.panic c) (a.put (some d) v) w → Q (.panic c) a w) → (∀ r, r ∈ ml → r ∈ μ) → (∀ r, r ∈ pl → r ∈ φ) → ∀ a w, OKa E σ a → OKm E μ φ w → wpAnyH E.P .any ops Q (fun w => Hold w ml ∧ Hold w pl) fuel listed a w
theorem Hold.sub {w : World} {ρ ρ' : List Res} (h : Hold w ρ) (hs : ∀ r, r ∈ ρ' → r ∈ ρ) : Hold w ρ' := fun r hr => h r (hs r hr)
variable {ml pl : List Res} {fuel : Nat} {listed : Array Bool}
theorem AJ_y (i : Nat) {d : Tmp} {op : Op} {ty : TypeId} {pos : String} {af : Array Edge} {g : Option (Nat × Bool)} {v : Value} (hi : ops[i]? = some ⟨some d, op, ty, pos, af, g⟩)
  (hf : Region.free .any ops listed i = true) (hr : (Region.ready .any ops listed).contains i = true)
  (hg : grd ops σ g = some true) (hd : Nat.blt d E.N = true) (hy : YJ E op ty σ ml pl v)
  (h : AJ E Q ops ml pl fuel (listed.setIfInBounds i true) ((d, v) :: σ) μ φ) : AJ E Q ops ml pl (fuel + 1) listed σ μ φ := fun hs hQ hm hp a w ha hmem =>
 wpAnyH_take hi hs hf hr (fun c a w => hQ c a w _ _) (.inl ⟨grd_wanted (o := ⟨some d, op, ty, pos, af, g⟩) ha hg, fun w' hw' => hy a w' _ _ _ _ ha.slots hw'.1 hw'.2⟩)
  ⟨hmem.hold.1.sub hm, hmem.hold.2.sub hp⟩ (h hs hQ hm hp _ _ (ha.put hd v) hmem)
theorem AJ_skip (i : Nat) {d : Tmp} {op : Op} {ty : TypeId} {pos : String} {af : Array Edge} {g : Option (Nat × Bool)} (hi : ops[i]? = some ⟨some d, op, ty, pos, af, g⟩)
  (hf : Region.free .any ops listed i = true) (hr : (Region.ready .any ops listed).contains i = true)
  (hg : grd ops σ g = some false) (hd : Nat.blt d E.N = true)
  (h : AJ E Q ops ml pl fuel (listed.setIfInBounds i true) ((d, undef) :: σ) μ φ) : AJ E Q ops ml pl (fuel + 1) listed σ μ φ := fun hs hQ hm hp a w ha hmem =>
 wpAnyH_take hi hs hf hr (fun c a w => hQ c a w _ _) (.inr ⟨grd_wanted (o := ⟨some d, op, ty, pos, af, g⟩) ha hg, rfl⟩)
  ⟨hmem.hold.1.sub hm, hmem.hold.2.sub hp⟩ (h hs hQ hm hp _ _ (ha.put hd undef) hmem)
theorem AJ_o (i : Nat) {d : Tmp} {op : Op} {ty : TypeId} {pos : String} {af : Array Edge} {g : Option (Nat × Bool)} {X : Value → List Res → List Res → Prop} (hi : ops[i]? = some ⟨some d, op, ty, pos, af, g⟩)
  (hr : Region.ready .any ops listed = [i]) (hg : grd ops σ g = some true) (hd : Nat.blt d E.N = true) (ho : OJ E op ty σ μ φ X)
  (h : ∀ v μ' φ', X v μ' φ' → (∀ r, r ∈ ml → r ∈ μ → r ∈ μ') ∧ (∀ r, r ∈ pl → r ∈ φ → r ∈ φ') ∧ AJ E Q ops ml pl fuel (listed.setIfInBounds i true) ((d, v) :: σ) μ' φ') : AJ E Q ops ml pl (fuel + 1) listed σ μ φ := fun hs hQ hm hp a w ha hmem =>
 wpAnyH_all hr (by simp) fun j hj => by
  have hji : j = i := by simpa using hj
  subst hji
  unfold wpOp
  rw [hi]
  dsimp only
  rw [if_pos (grd_wanted (o := ⟨some d, op, ty, pos, af, g⟩) ha hg)]
  refine .inl (ho a w _ _ _ _ _ _ ha.slots hmem fun v μ' φ' w' hx hm' => ?_)
  obtain ⟨k1, k2, k3⟩ := h v μ' φ' hx
  have e1 : ∀ r, r ∈ ml → r ∈ μ' := fun r hr => k1 r hr (hm r hr)
  have e2 : ∀ r, r ∈ pl → r ∈ φ' := fun r hr => k2 r hr (hp r hr)
  exact ⟨⟨hm'.hold.1.sub e1, hm'.hold.2.sub e2⟩, k3 hs hQ e1 e2 _ _ (ha.put hd v) hm'⟩
theorem AJ_o0 (i : Nat) {op : Op} {ty : TypeId} {pos : String} {af : Array Edge} {g : Option (Nat × Bool)} {X : Value → List Res → List Res → Prop} (hi : ops[i]? = some ⟨none, op, ty, pos, af, g⟩)
  (hr : Region.ready .any ops listed = [i]) (hg : grd ops σ g = some true) (ho : OJ E op ty σ μ φ X)
  (h : ∀ v μ' φ', X v μ' φ' → ((∀ r, r ∈ ml → r ∈ μ) → ∀ r, r ∈ ml → r ∈ μ') ∧ (∀ r, r ∈ pl → r ∈ φ → r ∈ φ') ∧ AJ E Q ops ml pl fuel (listed.setIfInBounds i true) σ μ' φ') : AJ E Q ops ml pl (fuel + 1) listed σ μ φ := fun hs hQ hm hp a w ha hmem =>
 wpAnyH_all hr (by simp) fun j hj => by
  have hji : j = i := by simpa using hj
  subst hji
  unfold wpOp
  rw [hi]
  dsimp only
  rw [if_pos (grd_wanted (o := ⟨none, op, ty, pos, af, g⟩) ha hg)]
  refine .inl (ho a w _ _ _ _ _ _ ha.slots hmem fun v μ' φ' w' hx hm' => ?_)
  obtain ⟨k1, k2, k3⟩ := h v μ' φ' hx
  have e1 : ∀ r, r ∈ ml → r ∈ μ' := k1 hm
  have e2 : ∀ r, r ∈ pl → r ∈ φ' := fun r hr => k2 r hr (hp r hr)
  exact ⟨⟨hm'.hold.1.sub e1, hm'.hold.2.sub e2⟩, k3 hs hQ e1 e2 _ _ ha hm'⟩
theorem LJ_bool {d : Nat} {b c : Bool} (hb : b = c) (h : LJ E Q ops rest ((d, .bool c) :: σ) μ φ) : LJ E Q ops rest ((d, .bool b) :: σ) μ φ := by subst hb; exact h
theorem LJ_boolC {d : Nat} {b : Bool} (ht : b = true → LJ E Q ops rest ((d, .bool true) :: σ) μ φ) (hf : b = false → LJ E Q ops rest ((d, .bool false) :: σ) μ φ) : LJ E Q ops rest ((d, .bool b) :: σ) μ φ := by
 cases b
 ·exact hf rfl
 ·exact ht rfl
theorem AJ_bool {d : Nat} {b c : Bool} (hb : b = c) (h : AJ E Q ops ml pl fuel listed ((d, .bool c) :: σ) μ φ) : AJ E Q ops ml pl fuel listed ((d, .bool b) :: σ) μ φ := by subst hb; exact h
theorem AJ_boolC {d : Nat} {b : Bool} (ht : b = true → AJ E Q ops ml pl fuel listed ((d, .bool true) :: σ) μ φ) (hf : b = false → AJ E Q ops ml pl fuel listed ((d, .bool false) :: σ) μ φ) : AJ E Q ops ml pl fuel listed ((d, .bool b) :: σ) μ φ := by
 cases b
 ·exact hf rfl
 ·exact ht rfl
theorem LJ_val {d : Nat} {u v : Value} (hb : u = v) (h : LJ E Q ops rest ((d, v) :: σ) μ φ) : LJ E Q ops rest ((d, u) :: σ) μ φ := by subst hb; exact h
theorem AJ_val {d : Nat} {u v : Value} (hb : u = v) (h : AJ E Q ops ml pl fuel listed ((d, v) :: σ) μ φ) : AJ E Q ops ml pl fuel listed ((d, u) :: σ) μ φ := by subst hb; exact h
theorem AJ_done (hr : Region.ready .any ops listed = []) (h : QJ E Q .normal σ μ φ) : AJ E Q ops ml pl fuel listed σ μ φ := fun _ _ _ _ a w ha hmem => wpAnyH_done hr (h a w ha hmem) _
theorem CJ_reg {id : Nat} {l : List Oper} (h : LJ E Q l.toArray l σ μ φ) : CJ E Q (.region id l.toArray false) σ μ φ := fun a w ha hm => wp_region_lit (h a w ha hm)
theorem CJ_regD {id : Nat} (hmix : E.P.follows .mixedOrders = true) (hs : Region.noSelect ops = true) (hQ : ∀ c a w d v, Q (.panic c) (a.put (some d) v) w → Q (.panic c) a w) (ml pl : List Res) (hml : ∀ r, r ∈ ml → r ∈ μ) (hpl : ∀ r, r ∈ pl → r ∈ φ)
  (h : AJ E Q ops ml pl ops.size (Array.replicate ops.size false) σ μ φ) : CJ E Q (.region id ops true) σ μ φ := fun a w ha hm =>
 wp_region_held (S := fun w => Hold w ml ∧ Hold w pl) hmix (h hs hQ hml hpl a w.drew ha hm.drew)
theorem CJ_seq {x y : Code} (h : CJ E (Exit.then (y.wp E.P Q) Q) x σ μ φ) : CJ E Q (.seq x y) σ μ φ := fun a w ha hm => wp_seq (h a w ha hm)
theorem CJ_skip (h : QJ E Q .normal σ μ φ) : CJ E Q .skip σ μ φ := fun a w ha hm => wp_skip (h a w ha hm)
theorem CJ_ret (h : QJ E Q .ret σ μ φ) : CJ E Q .ret σ μ φ := fun a w ha hm => wp_ret (h a w ha hm)
theorem CJ_exit {id : Nat} (h : QJ E Q (.exit id) σ μ φ) : CJ E Q (.exit id) σ μ φ := fun a w ha hm => wp_exit (h a w ha hm)
theorem CJ_block {id : Nat} {c : Code} (h : CJ E (Exit.inBlock id Q) c σ μ φ) : CJ E Q (.block id c) σ μ φ := fun a w ha hm => wp_block (h a w ha hm)
theorem CJ_cond {c : Operand} {x y : Code} {b : Bool} (hc : oev σ c = some (.bool b)) (ht : b = true → CJ E Q x σ μ φ) (hf : b = false → CJ E Q y σ μ φ) : CJ E Q (.cond c x y) σ μ φ := fun a w ha hm =>
 wp_cond_split (ha.slots.ev hc) (fun h => ht h a w ha hm) (fun h => hf h a w ha hm)
theorem CJ_condT {c : Operand} {x y : Code} (hc : oev σ c = some (.bool true)) (ht : CJ E Q x σ μ φ) : CJ E Q (.cond c x y) σ μ φ := fun a w ha hm => wp_cond_true (ha.slots.ev hc) (ht a w ha hm)
theorem CJ_condF {c : Operand} {x y : Code} (hc : oev σ c = some (.bool false)) (hf : CJ E Q y σ μ φ) : CJ E Q (.cond c x y) σ μ φ := fun a w ha hm => wp_cond_false (ha.slots.ev hc) (hf a w ha hm)
theorem QJ_then {y : Code} (h : CJ E Q y σ μ φ) : QJ E (Exit.then (y.wp E.P Q) Q) .normal σ μ φ := fun a w ha hm => h a w ha hm
theorem QJ_then_ret {K : Act → World → Prop} (h : QJ E Q .ret σ μ φ) : QJ E (Exit.then K Q) .ret σ μ φ := fun a w ha hm => h a w ha hm
theorem QJ_then_exit {K : Act → World → Prop} {id : Nat} (h : QJ E Q (.exit id) σ μ φ) : QJ E (Exit.then K Q) (.exit id) σ μ φ := fun a w ha hm => h a w ha hm
theorem QJ_in_ret {i : Nat} (h : QJ E Q .ret σ μ φ) : QJ E (Exit.inBlock i Q) .ret σ μ φ := fun a w ha hm => h a w ha hm
theorem QJ_in_normal {i : Nat} (h : QJ E Q .normal σ μ φ) : QJ E (Exit.inBlock i Q) .normal σ μ φ := fun a w ha hm => h a w ha hm
theorem QJ_in_exit {i : Nat} (h : QJ E Q .normal σ μ φ) : QJ E (Exit.inBlock i Q) (.exit i) σ μ φ := fun a w ha hm => by
 show (if i = i then Q .normal a w else Q (.exit i) a w)
 rw [if_pos rfl]
 exact h a w ha hm
theorem OKm.weak {μ' φ' : List Res} {w : World} (h : OKm E μ φ w) {μr : List Res} (hp : List.Perm μ (μ' ++ μr)) (hf : ∀ r, r ∈ φ' → r ∈ φ) : OKm E μ' φ' w := by
 refine ⟨h.keeps, ?_⟩
 obtain ⟨S, T, h1, h2, h3, h4, h5, h6⟩ := h.mem
 obtain ⟨S1, S2, g1, _, _, gs⟩ := (h1.perm hp).split
 exact ⟨S1, T, g1, fun r hr => h2 r (hf r hr), fun k hk => h3 k ((gs k).2 (.inl hk)), fun k hk => h4 k ((gs k).2 (.inl hk)), h5, h6⟩
theorem CJ_weak {c : Code} {σ' : List (Nat × Value)} {μ' φ' μr : List Res} (hs : AllLk σ σ') (hp : List.Perm μ (μ' ++ μr)) (hf : ∀ r, r ∈ φ' → r ∈ φ) (h : CJ E Q c σ' μ' φ') : CJ E Q c σ μ φ :=
 fun a w ha hm => h a w ⟨ha.defs, ha.siz, ha.slots.weak hs⟩ (hm.weak hp hf)
theorem OKm.freeze {r : Res} {w : World} (h : OKm E (r :: μ) φ w) : OKm E μ (r :: φ) w := by
 refine ⟨h.keeps, ?_⟩
 obtain ⟨S, T, ⟨S1, S2, g1, g2, gd, gs⟩, h2, h3, h4, h5, h6⟩ := h.mem
 refine ⟨S2, fun k => T k ∨ S1 k, g2, ?_, ?_, fun k hk => h4 k ((gs k).2 (.inr hk)), ?_, ?_⟩
 ·intro r' hr'
  rcases List.mem_cons.1 hr' with rfl | hr'
  ·exact ⟨S1, g1, fun k hk => .inr hk⟩
  ·obtain ⟨S', a, b⟩ := h2 r' hr'
   exact ⟨S', a, fun k hk => .inl (b k hk)⟩
 ·rintro k hk (hT | hS)
  ·exact h3 k ((gs k).2 (.inr hk)) hT
  ·exact gd k hS hk
 ·rintro k (hT | hS)
  ·exact h5 k hT
  ·exact .inr (h4 k ((gs k).2 (.inl hS)))
 ·rintro k (hT | hS)
  ·exact h6 k hT
  ·exact r.lt g1 hS
theorem LJ_freeze {r : Res} (h : LJ E Q ops rest σ μ (r :: φ)) : LJ E Q ops rest σ (r :: μ) φ := fun a w ha hm => h a w ha hm.freeze
theorem OKm.turn {μ' φ' : List Res} {w : World} (h : OKm E μ φ w) (hs : ∀ S, Sep w μ S → Sep w μ' S) (hf : ∀ T, Fac w φ T → Fac w φ' T) : OKm E μ' φ' w := by
 refine ⟨h.keeps, ?_⟩
 obtain ⟨S, T, h1, h2, h3, h4, h5, h6⟩ := h.mem
 exact ⟨S, T, hs S h1, hf T h2, h3, h4, h5, h6⟩
structure St where
 σ : List (Nat × Value)
 μ : List Res
 φ : List Res
open Classical in
theorem CJ_loop {ι : Type} (F : ι → St) (I : ι → Prop) (m : ι → Nat) {c : Code} (i0 : ι) {μr : List Res} (h0 : I i0) (hs : AllLk σ (F i0).σ) (hp : List.Perm μ ((F i0).μ ++ μr)) (hf : ∀ r, r ∈ (F i0).φ → r ∈ φ)
  (h : ∀ i, I i → CJ E (Exit.then (fun a' w' => ∃ j, I j ∧ m j < m i ∧ OKa E (F j).σ a' ∧ OKm E (F j).μ (F j).φ w') Q) c (F i).σ (F i).μ (F i).φ) : CJ E Q (.loop c) σ μ φ := fun a w ha hm => by
 have key : ∀ (a : Act) (w : World), (∃ i, I i ∧ OKa E (F i).σ a ∧ OKm E (F i).μ (F i).φ w) → ∃ n, ∃ i, I i ∧ m i = n ∧ OKa E (F i).σ a ∧ OKm E (F i).μ (F i).φ w := fun a w ⟨i, h1, h2, h3⟩ => ⟨m i, i, h1, rfl, h2, h3⟩
 have hmin : ∀ (a : Act) (w : World), (∃ n, ∃ i, I i ∧ m i = n ∧ OKa E (F i).σ a ∧ OKm E (F i).μ (F i).φ w) → ∃ n, (∃ i, I i ∧ m i = n ∧ OKa E (F i).σ a ∧ OKm E (F i).μ (F i).φ w) ∧ ∀ n', (∃ i, I i ∧ m i = n' ∧ OKa E (F i).σ a ∧ OKm E (F i).μ (F i).φ w) → n ≤ n' := by
  intro a w ⟨n, hn⟩
  induction n using Nat.strongRecOn with
  | _ n ih =>
   by_cases hex : ∃ n', n' < n ∧ ∃ i, I i ∧ m i = n' ∧ OKa E (F i).σ a ∧ OKm E (F i).μ (F i).φ w
   ·obtain ⟨n', hlt, hn'⟩ := hex
    exact ih n' hlt hn'
   ·exact ⟨n, hn, fun n' hn' => Nat.le_of_not_lt fun hlt => hex ⟨n', hlt, hn'⟩⟩
 let μm : Act → World → Nat := fun a w => if hx : ∃ n, ∃ i, I i ∧ m i = n ∧ OKa E (F i).σ a ∧ OKm E (F i).μ (F i).φ w then (hmin a w hx).choose else 0
 have hμ : ∀ (a : Act) (w : World), (∃ i, I i ∧ OKa E (F i).σ a ∧ OKm E (F i).μ (F i).φ w) → (∃ i, I i ∧ m i = μm a w ∧ OKa E (F i).σ a ∧ OKm E (F i).μ (F i).φ w) ∧ ∀ i, I i → OKa E (F i).σ a → OKm E (F i).μ (F i).φ w → μm a w ≤ m i := by
  intro a w hx
  have hx' := key a w hx
  have hs := (hmin a w hx').choose_spec
  have e : μm a w = (hmin a w hx').choose := dif_pos hx'
  rw [e]
  exact ⟨hs.1, fun i h1 h2 h3 => hs.2 (m i) ⟨i, h1, rfl, h2, h3⟩⟩
 refine wp_loop (fun a w => ∃ i, I i ∧ OKa E (F i).σ a ∧ OKm E (F i).μ (F i).φ w) μm ⟨i0, h0, ⟨ha.defs, ha.siz, ha.slots.weak hs⟩, hm.weak hp hf⟩ ?_
 intro a w hI
 obtain ⟨⟨i, h1, h2, h3, h4⟩, _⟩ := hμ a w hI
 refine wp_mono (h i h1 a w h3 h4) ?_
 intro e a' w' q
 cases e with
 | normal =>
  obtain ⟨j, k1, k2, k3, k4⟩ := q
  have hJ : ∃ i, I i ∧ OKa E (F i).σ a' ∧ OKm E (F i).μ (F i).φ w' := ⟨j, k1, k3, k4⟩
  refine ⟨hJ, ?_⟩
  have := (hμ a' w' hJ).2 j k1 k3 k4
  omega
 | _ => exact q
theorem QJ_round {ι : Type} {F : ι → St} {I : ι → Prop} {m : ι → Nat} {i : ι} (j : ι) {μr : List Res} (hI : I j) (hm : m j < m i) (hs : AllLk σ (F j).σ) (hp : List.Perm μ ((F j).μ ++ μr)) (hf : ∀ r, r ∈ (F j).φ → r ∈ φ) :
  QJ E (Exit.then (fun a' w' => ∃ j, I j ∧ m j < m i ∧ OKa E (F j).σ a' ∧ OKm E (F j).μ (F j).φ w') Q) .normal σ μ φ := fun _ _ ha hk => ⟨j, hI, hm, ⟨ha.defs, ha.siz, ha.slots.weak hs⟩, hk.weak hp hf⟩
end
end Go.Proofs.Ytbanlhlggkdanaa
namespace Go.Proofs.Ytbanlhlggkdanaa
open Go.RowKit
def tyi (P : Program) (t : TypeId) : Option (Bool × Nat) :=
 match P.underlying t, P.info? t with
 | some d, some i => some (match d with | .struct _ | .array .. => true | _ => false, i.size)
 | _, _ => none
def zer (P : Program) (t : TypeId) : Option Value := (P.info? t).bind (·.zero)
def fld (P : Program) (t : TypeId) (i : Nat) : Option Nat :=
 match P.underlying t with
 | some (.struct fs) => match fs[i]? with
  | some f => match P.info? f.type with
   | some fi => if fi.size = 0 then none else some f.offset
   | none => none
  | none => none
 | _ => none
def elt (P : Program) (t : TypeId) : Option (TypeId × Nat × Nat) :=
 match P.underlying t with
 | some (.slice e) => (P.info? e).map fun i => (e, i.size, i.bytes)
 | _ => none
theorem run_isAgg {P : Program} {t : TypeId} {b : Bool} {n : Nat} (h : tyi P t = some (b, n)) (w : World) : (isAgg t).run P w = .ok b w := by
 unfold tyi at h
 cases hu : P.underlying t with
 | none => rw [hu] at h; simp at h
 | some d =>
  rw [hu] at h
  cases hi : P.info? t with
  | none => rw [hi] at h; simp at h
  | some i =>
   rw [hi] at h
   simp only [Option.some.injEq, Prod.mk.injEq] at h
   unfold isAgg
   simp only [Sem.run_bind, run_underlying hu, Result.andThen_ok]
   cases d <;> (rw [← h.1]; rfl)
theorem run_sizeOf' {P : Program} {t : TypeId} {b : Bool} {n : Nat} (h : tyi P t = some (b, n)) (w : World) : (sizeOf t).run P w = .ok n w := by
 unfold tyi at h
 cases hu : P.underlying t with
 | none => rw [hu] at h; simp at h
 | some d =>
  rw [hu] at h
  cases hi : P.info? t with
  | none => rw [hi] at h; simp at h
  | some i =>
   rw [hi] at h
   simp only [Option.some.injEq, Prod.mk.injEq] at h
   rw [← h.2]
   simp [sizeOf, typeInfo, hi]
theorem run_zeroValue' {P : Program} {t : TypeId} {v : Value} (h : zer P t = some v) (w : World) : (zeroValue t).run P w = .ok v w := by
 unfold zer at h
 cases hi : P.info? t with
 | none => rw [hi] at h; simp at h
 | some i =>
  rw [hi] at h
  have hz : i.zero = some v := by simpa using h
  simp [zeroValue, typeInfo, hi, hz]
def cellsR (b : Nat) (cs : Array Value) (t : TypeId) : Res where
 p w S := w.heap[b]? = some (.cells cs t (0, 0)) ∧ ∀ k, S k ↔ k = b
 loc := fun {w w' S} ⟨h, hs⟩ hk => ⟨(hk b ((hs b).2 rfl)).trans h, hs⟩
 lt := fun {w S k} ⟨h, hs⟩ hk => by
  have e := (hs k).1 hk
  subst e
  rcases Nat.lt_or_ge k w.heap.size with h' | h'
  ·exact h'
  ·rw [Array.getElem?_eq_none h'] at h; cases h
def sliceR (size : Nat) (A : Option Addr) (n : Nat) (xs : List Value) : Res where
 p w S := xs.length = n * size ∧ (if xs.length = 0 then ∀ k, ¬ S k else ∃ ad, A = some ad ∧ (∀ k, S k ↔ k = ad.block) ∧ ∀ j v, xs[j]? = some v → w.cell? (ad.add j) = some v)
 loc := fun {w w' S} ⟨h, hs⟩ hk => by
  refine ⟨h, ?_⟩
  split
  ·rename_i h0; rw [if_pos h0] at hs; exact hs
  ·rename_i h0
   rw [if_neg h0] at hs
   obtain ⟨ad, e, hS, hc⟩ := hs
   refine ⟨ad, e, hS, fun j v hj => ?_⟩
   have hb : (ad.add j).block = ad.block := by unfold Addr.add; split <;> rfl
   rw [World.cell?_of_block (w := w) (by rw [hb]; exact hk _ ((hS _).2 rfl))]
   exact hc j v hj
 lt := fun {w S k} ⟨h, hs⟩ hk => by
  split at hs
  ·exact absurd hk (hs k)
  ·rename_i h0
   obtain ⟨ad, e, hS, hc⟩ := hs
   have e := (hS k).1 hk
   subst e
   have h1 : 0 < xs.length := by omega
   have h2 := hc 0 xs[0] (List.getElem?_eq_getElem h1)
   have hb : (ad.add 0).block = ad.block := by unfold Addr.add; split <;> rfl
   have := World.block_lt_of_cell? w _ h2
   omega
def adr (A : Option Addr) : Addr := A.getD default
theorem sliceR.cell {size n : Nat} {A : Option Addr} {xs : List Value} {w : World} {S : Nat → Prop} (h : (sliceR size A n xs).p w S) {j : Nat} {v : Value} (hj : xs[j]? = some v) : w.cell? ((adr A).add j) = some v := by
 obtain ⟨hl, hs⟩ := h
 have h1 : j < xs.length := by
  rcases Nat.lt_or_ge j xs.length with h' | h'
  ·exact h'
  ·rw [List.getElem?_eq_none h'] at hj; cases hj
 rw [if_neg (by omega)] at hs
 obtain ⟨ad, e, _, hc⟩ := hs
 subst e
 exact hc j v hj
theorem sliceR.some_ {size n : Nat} {A : Option Addr} {xs : List Value} {w : World} {S : Nat → Prop} (h : (sliceR size A n xs).p w S) (hn : 0 < xs.length) : A = some (adr A) := by
 obtain ⟨hl, hs⟩ := h
 rw [if_neg (by omega)] at hs
 obtain ⟨ad, e, _, hc⟩ := hs
 subst e
 rfl
theorem Addr.add_add (a : Addr) (i j : Nat) : (a.add i).add j = a.add (i + j) := by
 unfold Addr.add
 by_cases hi : i = 0 <;> by_cases hj : j = 0 <;> simp [hi, hj, Nat.add_assoc]
theorem run_loadVar1 {P : Program} {t : TypeId} {w : World} {a : Addr} {v : Value} (h : tyi P t = some (false, 1)) (hc : w.cell? a = some v) : (loadVar t a).run P w = .ok v w := by
 unfold loadVar
 simp [run_isAgg h, load, Sem.run, hc]
theorem run_loadVarN {P : Program} {t : TypeId} {w : World} {a : Addr} {n : Nat} {vs : List Value} (h : tyi P t = some (true, n)) (hl : vs.length = n) (hc : ∀ j v, vs[j]? = some v → w.cell? (a.add j) = some v) : (loadVar t a).run P w = .ok (.agg vs.toArray) w := by
 unfold loadVar
 have := run_loadCells_list (P := P) w a vs hc
 rw [hl] at this
 simp [run_isAgg h, run_sizeOf' h, this]
def lget : List Value → Nat → Option Value
 | [], _ => none
 | v :: _, 0 => some v
 | _ :: r, n + 1 => lget r n
theorem lget_eq : ∀ (l : List Value) (n : Nat), lget l n = l[n]?
 | [], _ => by simp [lget]
 | _ :: _, 0 => by simp [lget]
 | _ :: r, n + 1 => by simp [lget, lget_eq r n]
def iop : BinOp → IntKind → Int → Int → Option Value
 | .add, k, a, b => some (.int k (k.wrap (a + b)))
 | .sub, k, a, b => some (.int k (k.wrap (a - b)))
 | .mul, k, a, b => some (.int k (k.wrap (a * b)))
 | .lss, _, a, b => some (.bool (decide (a < b)))
 | .leq, _, a, b => some (.bool (decide (a ≤ b)))
 | .gtr, _, a, b => some (.bool (decide (b < a)))
 | .geq, _, a, b => some (.bool (decide (b ≤ a)))
 | .eql, _, a, b => some (.bool (decide (a = b)))
 | .neq, _, a, b => some (.bool (!decide (a = b)))
 | _, _, _, _ => none
section
variable {E : Env} {ty : TypeId} {σ : List (Nat × Value)} {μ φ : List Res}
theorem YJ_move {x : Operand} {v : Value} (hx : oev σ x = some v) : YJ E (.move x) ty σ μ φ v := fun a w _ _ _ _ hs _ _ => by
 simp only [execOp, hs.ev hx]
 simp
theorem YJ_assign {x : Operand} {v : Value} (hx : oev σ x = some v) : YJ E (.assign x) ty σ μ φ v := fun a w _ _ _ _ hs _ _ => by
 simp only [execOp, hs.ev hx]
 simp
theorem YJ_pickT {c x y : Operand} {v : Value} (hc : oev σ c = some (.bool true)) (hx : oev σ x = some v) : YJ E (.pick c x y) ty σ μ φ v := fun a w _ _ _ _ hs _ _ => by
 simp only [execOp, hs.ev hc, hs.ev hx]
 simp [asBool]
theorem YJ_pickF {c x y : Operand} {v : Value} (hc : oev σ c = some (.bool false)) (hy : oev σ y = some v) : YJ E (.pick c x y) ty σ μ φ v := fun a w _ _ _ _ hs _ _ => by
 simp only [execOp, hs.ev hc, hs.ev hy]
 simp [asBool]
theorem YJ_extract {x : Operand} {i : Nat} {vs : Array Value} {v : Value} (hx : oev σ x = some (.tuple vs)) (hi : lget vs.toList i = some v) : YJ E (.extract x i) ty σ μ φ v := fun a w _ _ _ _ hs _ _ => by
 rw [lget_eq, Array.getElem?_toList] at hi
 simp only [execOp, hs.ev hx]
 simp [Instr.extract, hi]
theorem YJ_bin {op : BinOp} {xt yt : TypeId} {x y : Operand} {k : IntKind} {a b : Int} {v : Value} (hx : oev σ x = some (.int k a)) (hy : oev σ y = some (.int k b)) (hv : iop op k a b = some v) :
  YJ E (.binOp op xt x y yt) ty σ μ φ v := fun ac w _ _ _ _ hs _ _ => by
 have e1 := hs.ev hx
 have e2 := hs.ev hy
 simp only [execOp, e1, e2]
 cases op <;> simp only [iop, Option.some.injEq, reduceCtorEq] at hv <;> subst hv <;> simp [eqGuard_add, eqGuard_sub, eqGuard_mul, eqGuard_lss, eqGuard_leq, eqGuard_gtr, eqGuard_geq, eqGuard_at_int, binOp_add, binOp_sub, binOp_mul, binOp_lss, binOp_leq, binOp_gtr, binOp_geq, binOp_eql, binOp_neq, Op.intArith] <;> rfl
theorem YJ_shr {xt yt : TypeId} {x y : Operand} {k yk : IntKind} {a b : Int} (hx : oev σ x = some (.int k a)) (hy : oev σ y = some (.int yk b)) (hb : 0 ≤ b) :
  YJ E (.binOp .shr xt x y yt) ty σ μ φ (.int k (a / 2 ^ min b.toNat k.bits)) := fun ac w _ _ _ _ hs _ _ => by
 simp only [execOp, hs.ev hx, hs.ev hy]
 simp [eqGuard_shr, binOp_shr, shift_shr_any k yk a b hb]
theorem YJ_rem {xt yt : TypeId} {x y : Operand} {k : IntKind} {a b : Int} (hx : oev σ x = some (.int k a)) (hy : oev σ y = some (.int k b)) (hb : b ≠ 0) :
  YJ E (.binOp .rem xt x y yt) ty σ μ φ (.int k (a.tmod b)) := fun ac w _ _ _ _ hs _ _ => by
 simp only [execOp, hs.ev hx, hs.ev hy]
 simp [eqGuard_rem, binOp_rem, Op.intDiv, hb]
theorem YJ_eqb {xt yt : TypeId} {x y : Operand} {a b : Bool} (hx : oev σ x = some (.bool a)) (hy : oev σ y = some (.bool b)) (hu : E.P.underlying xt = some .bool) :
  YJ E (.binOp .eql xt x y yt) ty σ μ φ (.bool (a == b)) := fun ac w _ _ _ _ hs _ _ => by
 simp only [execOp, hs.ev hx, hs.ev hy]
 simp [go_sem, hu]
theorem YJ_neb {xt yt : TypeId} {x y : Operand} {a b : Bool} (hx : oev σ x = some (.bool a)) (hy : oev σ y = some (.bool b)) (hu : E.P.underlying xt = some .bool) :
  YJ E (.binOp .neq xt x y yt) ty σ μ φ (.bool (a != b)) := fun ac w _ _ _ _ hs _ _ => by
 simp only [execOp, hs.ev hx, hs.ev hy]
 simp [go_sem, hu, bne]
theorem YJ_eqs {op : BinOp} {xt yt : TypeId} {x y : Operand} {u u' v : Value} (hx : oev σ x = some u) (hy : oev σ y = some u')
  (hv : ∀ w, (do eqGuard op xt x y u u'; binOp op xt u u' : Sem Value).run E.P w = .ok v w) :
  YJ E (.binOp op xt x y yt) ty σ μ φ v := fun ac w _ _ _ _ hs _ _ => by
 have := hv w
 simp only [execOp, hs.ev hx, hs.ev hy]
 simp only [Sem.run_bind] at this ⊢
 rw [this]
 simp
theorem YJ_not {xt : TypeId} {x : Operand} {a : Bool} (hx : oev σ x = some (.bool a)) : YJ E (.unOp .not xt x) ty σ μ φ (.bool (!a)) := fun ac w _ _ _ _ hs _ _ => by
 simp only [execOp, hs.ev hx]
 simp [unary_not]
theorem YJ_neg {xt : TypeId} {x : Operand} {k : IntKind} {a : Int} {v : Value} (hx : oev σ x = some (.int k a)) (hv : iop .sub k 0 a = some v) : YJ E (.unOp .neg xt x) ty σ μ φ v := fun ac w _ _ _ _ hs _ _ => by
 simp only [iop, Option.some.injEq] at hv
 subst hv
 simp only [execOp, hs.ev hx]
 simp [unary_neg, Op.intArith]
theorem YJ_xor {xt : TypeId} {x : Operand} {a : Int} (hx : oev σ x = some (.int .u64 a)) (h0 : 0 ≤ a) (h1 : a < 18446744073709551616) : YJ E (.unOp .xor xt x) ty σ μ φ (.int .u64 (18446744073709551615 - a)) := fun ac w _ _ _ _ hs _ _ => by
 simp only [execOp, hs.ev hx, unary_xor]
 have e : (BitVec.ofInt 64 18446744073709551615 ^^^ BitVec.ofInt 64 a : BitVec 64) = BitVec.ofInt 64 (18446744073709551615 - a) := by
  have h2 : (BitVec.ofInt 64 18446744073709551615 : BitVec 64) = BitVec.allOnes 64 := by decide
  rw [h2, BitVec.allOnes_xor]
  apply BitVec.eq_of_toNat_eq
  rw [BitVec.toNat_not, BitVec.toNat_ofInt, BitVec.toNat_ofInt]
  omega
 have e2 : (BitVec.ofInt 64 (18446744073709551615 - a)).toNat = (18446744073709551615 - a).toNat := by
  rw [BitVec.toNat_ofInt]; omega
 have hk : (if IntKind.u64.signed then (-1 : Int) else IntKind.u64.max) = 18446744073709551615 := by decide
 rw [hk]
 have : (Op.intBits .xor .u64 18446744073709551615 a) = pure (.int .u64 (18446744073709551615 - a)) := by
  unfold Op.intBits
  show (pure (Value.int .u64 (IntKind.u64.wrap ((BitVec.ofInt 64 18446744073709551615 ^^^ BitVec.ofInt 64 a : BitVec 64).toNat : Int))) : Sem Value) = _
  rw [e, e2]
  congr 2
  have : ((18446744073709551615 - a).toNat : Int) = 18446744073709551615 - a := by omega
  rw [this]
  simp only [IntKind.wrap, IntKind.bits, IntKind.signed]
  simp
  omega
 simp only [this]
 simp
theorem YJ_convII {src dst : TypeId} {x : Operand} {k k' : IntKind} {a : Int} (hx : oev σ x = some (.int k a)) (hs' : (E.P.underlying src).isSome = true) (hd : E.P.underlying dst = some (.int k')) :
  YJ E (.convert src dst x) ty σ μ φ (.int k' (k'.wrap a)) := fun ac w _ _ _ _ hs _ _ => by
 obtain ⟨d, hd'⟩ := Option.isSome_iff_exists.mp hs'
 simp only [execOp, hs.ev hx, convert, Sem.run_bind, run_underlying hd', run_underlying hd, Result.andThen_ok]
 cases d <;> rfl
theorem YJ_build {t : TypeId} {parts : Array (Nat × Operand)} {pvs : List (Nat × Value)} {cells : Array Value} (hp : ∀ a, Slots σ a → (parts.map fun p => (p.1, a.eval p.2)).toList = pvs) (hb : E.P.built t pvs = some cells) :
  YJ E (.build t parts) ty σ μ φ (.agg cells) := fun ac w _ _ _ _ hs _ _ => by
 have h1 := hp ac hs
 have h2 : E.P.built t (parts.map fun p => (p.1, ac.eval p.2)).toList = some cells := by rw [h1]; exact hb
 simp only [execOp]
 simp [run_build w t _ cells h2]
theorem YJ_len {x : Operand} {at_ : Array TypeId} {A : Option Addr} {n c : Nat} (hx : oev σ x = some (.slice A n c)) (ht : (at_[0]?).bind E.P.underlying = some (.slice (E.P.elem (at_.getD 0 0)))) (h1 : at_.size = 1) :
  YJ E (.call { callee := .builtin .len, args := #[x], argTypes := at_ }) ty σ μ φ (.int .i64 n) := fun ac w _ _ _ _ hs _ _ => by
 obtain ⟨l⟩ := at_
 match l, h1 with
 | [t], _ =>
  have ht' : E.P.underlying t = some (.slice (E.P.elem t)) := by simpa using ht
  simp only [execOp, hs.ev hx]
  simp [resolve, invoke, builtin, hs.ev hx, run_len_slice w t ty A n c ht', goInt]
theorem YJ_fieldAddr {s : TypeId} {x : Operand} {i off : Nat} {ad : Addr} (hx : oev σ x = some (.pointer (some ad))) (hf : fld E.P s i = some off) : YJ E (.fieldAddr s x i) ty σ μ φ (.pointer (some (ad.add off))) := fun ac w _ _ _ _ hs _ _ => by
 unfold fld at hf
 cases hu : E.P.underlying s with
 | none => rw [hu] at hf; simp at hf
 | some d =>
  rw [hu] at hf
  cases d <;> simp at hf
  rename_i fs
  cases hfi : fs[i]? with
  | none => rw [hfi] at hf; simp at hf
  | some f =>
   rw [hfi] at hf
   simp only at hf
   cases hi : E.P.info? f.type with
   | none => rw [hi] at hf; simp at hf
   | some fi =>
    rw [hi] at hf
    simp only [Option.ite_none_left_eq_some, Option.some.injEq] at hf
    obtain ⟨h0, rfl⟩ := hf
    simp only [execOp, hs.ev hx]
    simp [Instr.fieldAt, run_underlying hu, hfi, Instr.sureAddr, fieldPlace, sizeOf, typeInfo, hi, h0]
theorem YJ_fieldOwn {s : TypeId} {x : Operand} {i off b o : Nat} (hx : oev σ x = some (.pointer (some ⟨b, o, none⟩))) (hf : fld E.P s i = some off) {q : Nat} (hq : Nat.add o off = q) : YJ E (.fieldAddr s x i) ty σ μ φ (.pointer (some ⟨b, q, none⟩)) := fun ac w d pos af g hs h1 h2 => by
 have := YJ_fieldAddr (E := E) (ty := ty) (μ := μ) (φ := φ) hx hf ac w d pos af g hs h1 h2
 rw [this, Addr.add_lit]
 subst hq; rfl
theorem YJ_load1 {t t' : TypeId} {x : Operand} {b off : Nat} {cs : Array Value} {v : Value} (hx : oev σ x = some (.pointer (some ⟨b, off, none⟩))) (ht : tyi E.P t = some (false, 1)) (hm : cellsR b cs t' ∈ μ) (hc : cs[off]? = some v) :
  YJ E (.load t x) ty σ μ φ v := fun ac w _ _ _ _ hs hmu _ => by
 obtain ⟨S, h, _⟩ := hmu _ hm
 have := run_loadVar1 (P := E.P) ht ((cell_of_row w b off cs t' (0, 0) h).trans hc)
 simp only [execOp, hs.ev hx]
 simp [Instr.loadAt, Instr.sureAddr, this]
theorem YJ_loadL {t t' : TypeId} {x : Operand} {b off : Nat} {cs : Array Value} {v : Value} (hx : oev σ x = some (.pointer (some ⟨b, off, none⟩))) (ht : tyi E.P t = some (false, 1)) (hm : cellsR b cs t' ∈ μ) (hc : lget cs.toList off = some v) :
  YJ E (.load t x) ty σ μ φ v := YJ_load1 hx ht hm (by rw [← hc, lget_eq, Array.getElem?_toList])
theorem YJ_loadN {t t' : TypeId} {x : Operand} {b off n : Nat} {cs : Array Value} {vs : List Value} (hx : oev σ x = some (.pointer (some ⟨b, off, none⟩))) (ht : tyi E.P t = some (true, n)) (hm : cellsR b cs t' ∈ μ)
  (hc : (cs.toList.drop off).take n = vs) (hl : vs.length = n) :
  YJ E (.load t x) ty σ μ φ (.agg vs.toArray) := fun ac w _ _ _ _ hs hmu _ => by
 obtain ⟨S, h, _⟩ := hmu _ hm
 have := run_loadVarN (P := E.P) (w := w) (a := ⟨b, off, none⟩) ht hl (fun j v hj => by
  rw [Addr.add_lit, cell_of_row w b (off + j) cs t' (0, 0) h, ← hj, ← hc]
  have hjn : j < n := by
   rcases Nat.lt_or_ge j n with h' | h'
   ·exact h'
   ·rw [List.getElem?_eq_none (by omega)] at hj; cases hj
  rw [List.getElem?_take_of_lt hjn, List.getElem?_drop, Array.getElem?_toList])
 simp only [execOp, hs.ev hx]
 simp [Instr.loadAt, Instr.sureAddr, this]
theorem YJ_ixOwn {xt e : TypeId} {x y : Operand} {b off n c size : Nat} {k : IntKind} {i : Int} {bb : Nat} (hx : oev σ x = some (.slice (some ⟨b, off, none⟩) n c)) (hy : oev σ y = some (.int k i)) (he : elt E.P xt = some (e, size, bb)) (h0 : 0 ≤ i) (h1 : i < n) :
  YJ E (.indexAddr xt x y) ty σ μ φ (.pointer (some ⟨b, off + i.toNat * size, none⟩)) := fun ac w _ _ _ _ hs _ _ => by
 unfold elt at he
 cases hu : E.P.underlying xt with
 | none => rw [hu] at he; simp at he
 | some d =>
  rw [hu] at he
  cases d <;> simp at he
  rename_i e'
  obtain ⟨i', hi, rfl, rfl, rfl⟩ := he
  simp only [execOp, hs.ev hx, hs.ev hy]
  simp [Instr.indexAt, asIntOf, run_underlying hu, sizeOf, typeInfo, hi, h0, h1, Addr.add_lit]
theorem YJ_ixFact {xt e : TypeId} {x y : Operand} {A : Option Addr} {n n' c size : Nat} {k : IntKind} {i : Int} {bb : Nat} {xs : List Value} (hx : oev σ x = some (.slice A n c)) (hy : oev σ y = some (.int k i)) (he : elt E.P xt = some (e, size, bb)) (hm : sliceR size A n' xs ∈ φ) (hz : 0 < size) (h0 : 0 ≤ i) (h1 : i < n) (h2 : n ≤ n') :
  YJ E (.indexAddr xt x y) ty σ μ φ (.pointer (some ((adr A).add (i.toNat * size)))) := fun ac w _ _ _ _ hs _ hp => by
 unfold elt at he
 obtain ⟨S, h⟩ := hp _ hm
 have hl : 0 < xs.length := by
  rw [h.1]
  exact Nat.mul_pos (by omega) hz
 have hA := sliceR.some_ h hl
 cases hu : E.P.underlying xt with
 | none => rw [hu] at he; simp at he
 | some d =>
  rw [hu] at he
  cases d <;> simp at he
  rename_i e'
  obtain ⟨i', hi, rfl, rfl, rfl⟩ := he
  rw [hA] at hx
  simp only [execOp, hs.ev hx, hs.ev hy]
  simp [Instr.indexAt, asIntOf, run_underlying hu, sizeOf, typeInfo, hi, h0, h1]
theorem YJ_loadFact {t : TypeId} {x : Operand} {A : Option Addr} {n j size : Nat} {xs : List Value} {v : Value} (hx : oev σ x = some (.pointer (some ((adr A).add j)))) (ht : tyi E.P t = some (false, 1)) (hm : sliceR size A n xs ∈ φ) (hc : xs[j]? = some v) :
  YJ E (.load t x) ty σ μ φ v := fun ac w _ _ _ _ hs _ hp => by
 obtain ⟨S, h⟩ := hp _ hm
 have := run_loadVar1 (P := E.P) ht (sliceR.cell h hc)
 simp only [execOp, hs.ev hx]
 simp [Instr.loadAt, Instr.sureAddr, this]
theorem YJ_loadFactN {t : TypeId} {x : Operand} {A : Option Addr} {n j size m : Nat} {xs vs : List Value} (hx : oev σ x = some (.pointer (some ((adr A).add j)))) (ht : tyi E.P t = some (true, m)) (hm : sliceR size A n xs ∈ φ) (hc : (xs.drop j).take m = vs) (hl : vs.length = m) :
  YJ E (.load t x) ty σ μ φ (.agg vs.toArray) := fun ac w _ _ _ _ hs _ hp => by
 obtain ⟨S, h⟩ := hp _ hm
 have := run_loadVarN (P := E.P) (w := w) (a := (adr A).add j) ht hl (fun q v hq => by
  rw [Addr.add_add]
  refine sliceR.cell h ?_
  rw [← hq, ← hc]
  have hjn : q < m := by
   rcases Nat.lt_or_ge q m with h' | h'
   ·exact h'
   ·rw [List.getElem?_eq_none (by omega)] at hq; cases hq
  rw [List.getElem?_take_of_lt hjn, List.getElem?_drop])
 simp only [execOp, hs.ev hx]
 simp [Instr.loadAt, Instr.sureAddr, this]
theorem OKm.step {w w' : World} {μ φ : List Res} (h : OKm E μ φ w) (hk : Keeps (fun _ => False) w w') : OKm E μ φ w' := by
 obtain ⟨S, T, h1, h2, h3, h4, h5, h6⟩ := h.mem
 refine ⟨h.keeps.trans hk (fun k hk => hk.elim), S, T, h1.keep (fun k hS => hk.block k (h1.lt hS) id), fun r hr => ?_, h3, h4, h5, fun k hT => Nat.lt_of_lt_of_le (h6 k hT) hk.size⟩
 obtain ⟨S', a, b⟩ := h2 r hr
 exact ⟨S', r.loc a (fun k hS => hk.block k (r.lt a hS) id), b⟩
theorem OKm.new {w : World} {μ φ : List Res} (h : OKm E μ φ w) (cs : Array Value) (t : TypeId) : OKm E (cellsR w.heap.size cs t :: μ) φ (w.alloc (.cells cs t)) := by
 have h' := h.step (Keeps.alloc w (.cells cs t) _)
 obtain ⟨S, T, h1, h2, h3, h4, h5, h6⟩ := h.mem
 have hk : ∀ k, k < w.heap.size → (w.alloc (.cells cs t)).heap[k]? = w.heap[k]? := fun k hk => Below.heap_alloc w _ k hk
 refine ⟨h'.keeps, fun k => k = w.heap.size ∨ S k, T, ⟨fun k => k = w.heap.size, S, ⟨heap_alloc_new w _, fun _ => Iff.rfl⟩, h1.keep (fun k hS => hk k (h1.lt hS)), fun k e hS => ?_, fun _ => Iff.rfl⟩, fun r hr => ?_, fun k hS hT => ?_, fun k hS => ?_, h5, fun k hT => by have := h6 k hT; simp; omega⟩
 ·have := h1.lt hS; omega
 ·obtain ⟨S', a, b⟩ := h2 r hr
  exact ⟨S', r.loc a (fun k hS => hk k (r.lt a hS)), b⟩
 ·rcases hS with e | hS
  ·have := h6 k hT; omega
  ·exact h3 k hS hT
 ·rcases hS with e | hS
  ·exact .inr (by have := h.keeps.size; omega)
  ·exact h4 k hS
theorem OJ_box {t : TypeId} {x : Operand} {v : Value} (hx : oev σ x = some v) :
  OJ E (.box t x) ty σ μ φ (fun u μ' φ' => ∃ b, u = .pointer (some ⟨b, 0, none⟩) ∧ μ' = cellsR b v.cells t :: μ ∧ φ' = φ) := fun a w d pos af g K Q hs hm hK => by
 have : (execOp a.eval ⟨d, .box t x, ty, pos, af, g⟩).run E.P w = .ok (.value (.pointer (some ⟨w.heap.size, 0, none⟩))) (w.alloc (.cells v.cells t)) := by
  simp only [execOp, hs.ev hx]
  simp [Instr.box, newVar, newRow, newObj, Sem.run]
 unfold Oper.wp
 rw [this, Oper.upon_value]
 exact hK _ _ _ _ ⟨w.heap.size, rfl, rfl, rfl⟩ (hm.new _ _)
theorem OJ_alloc {t : TypeId} {v : Value} (hz : zer E.P t = some v) :
  OJ E (.alloc t) ty σ μ φ (fun u μ' φ' => ∃ b, u = .pointer (some ⟨b, 0, none⟩) ∧ μ' = cellsR b v.cells t :: μ ∧ φ' = φ) := fun a w d pos af g K Q hs hm hK => by
 have : (execOp a.eval ⟨d, .alloc t, ty, pos, af, g⟩).run E.P w = .ok (.value (.pointer (some ⟨w.heap.size, 0, none⟩))) (w.alloc (.cells v.cells t)) := by
  simp only [execOp]
  simp [Instr.alloc, run_zeroValue' hz, newVar, newRow, newObj, Sem.run]
 unfold Oper.wp
 rw [this, Oper.upon_value]
 exact hK _ _ _ _ ⟨w.heap.size, rfl, rfl, rfl⟩ (hm.new _ _)
def wr (cs : Array Value) (off : Nat) : List Value → Array Value
 | [] => cs
 | v :: vs => wr (cs.setIfInBounds off v) (off + 1) vs
theorem wr_size : ∀ (vs : List Value) (cs : Array Value) (off : Nat), (wr cs off vs).size = cs.size
 | [], _, _ => rfl
 | v :: vs, cs, off => by simp [wr, wr_size vs]
theorem run_storeCells_wr {P : Program} (b off : Nat) (t : TypeId) : ∀ (vs : List Value) (i : Nat) (cs : Array Value) (w : World), w.heap[b]? = some (.cells cs t (0, 0)) → off + i + vs.length ≤ cs.size → (∀ v ∈ vs, v.oneCell' = true) →
  ∃ w', (storeCells ⟨b, off, none⟩ vs i).run P w = .ok () w' ∧ w'.heap[b]? = some (.cells (wr cs (off + i) vs) t (0, 0)) ∧ (∀ k, k ≠ b → w'.heap[k]? = w.heap[k]?) ∧ w'.os = w.os ∧ w'.tape = w.tape ∧ w'.output = w.output ∧ w'.heap.size = w.heap.size
 | [], i, cs, w, h, _, _ => ⟨w, by simp [storeCells], h, fun _ _ => rfl, rfl, rfl, rfl, rfl⟩
 | v :: vs, i, cs, w, h, hl, h1 => by
  simp only [List.length_cons] at hl
  have hc : w.cell? ⟨b, off + i, none⟩ = some cs[off + i] := (cell_of_row w b (off + i) cs t (0, 0) h).trans (by rw [Array.getElem?_eq_getElem (by omega)])
  have hf := frozen_of_row w b (off + i) cs t h
  have hs : (store ⟨b, off + i, none⟩ v).run P w = .ok () (w.setCell ⟨b, off + i, none⟩ v) := by
   rw [run_store P w _ v _ (h1 v (.head _))]
   simp [stored, hc, hf]
  have hset : (w.setCell ⟨b, off + i, none⟩ v).heap[b]? = some (.cells (cs.setIfInBounds (off + i) v) t (0, 0)) := heap_setCell_same w b (off + i) cs t v h
  obtain ⟨w', e1, e2, e3, e4, e5, e6, e7⟩ := run_storeCells_wr b off t vs (i + 1) (cs.setIfInBounds (off + i) v) (w.setCell ⟨b, off + i, none⟩ v) hset (by simp; omega) (fun u hu => h1 u (.tail _ hu))
  refine ⟨w', ?_, ?_, fun k hk => (e3 k hk).trans (heap_setCell_other w _ k v hk), e4, e5, e6, by rw [e7]; simp⟩
  ·simp only [storeCells, Addr.add_lit, Sem.run_bind, hs, Result.andThen_ok]
   exact e1
  ·rw [e2]
   simp only [wr, Nat.add_assoc]
theorem OKm.write {w w' : World} {μ1 μ2 φ : List Res} {b : Nat} {cs cs' : Array Value} {t : TypeId} (h : OKm E (μ1 ++ cellsR b cs t :: μ2) φ w) (hb : w'.heap[b]? = some (.cells cs' t (0, 0)))
  (ho : ∀ k, k ≠ b → w'.heap[k]? = w.heap[k]?) (h1 : w'.os = w.os) (h2 : w'.tape = w.tape) (h3 : w'.output = w.output) (h4 : w'.heap.size = w.heap.size) : OKm E (μ1 ++ cellsR b cs' t :: μ2) φ w' := by
 have hp : List.Perm (μ1 ++ cellsR b cs t :: μ2) (cellsR b cs t :: (μ1 ++ μ2)) := List.perm_middle
 have hp' : List.Perm (cellsR b cs' t :: (μ1 ++ μ2)) (μ1 ++ cellsR b cs' t :: μ2) := List.perm_middle.symm
 obtain ⟨S, T, g1, g2, g3, g4, g5, g6⟩ := h.mem
 obtain ⟨S1, S2, k1, k2, k3, k4⟩ := g1.perm hp
 have hSb : S b := (k4 b).2 (.inl ((k1.2 b).2 rfl))
 refine ⟨⟨h1.trans h.keeps.os, h2.trans h.keeps.tape, h3.trans h.keeps.output, by rw [h4]; exact h.keeps.size, fun k hk hn => ?_⟩, S, T, ?_, ?_, g3, g4, g5, fun k hT => by rw [h4]; exact g6 k hT⟩
 ·have hkb : k ≠ b := by
   rintro rfl
   rcases g4 k hSb with h' | h'
   ·exact hn h'
   ·omega
  exact (ho k hkb).trans (h.keeps.block k hk hn)
 ·refine Sep.perm hp' ⟨S1, S2, ⟨hb, k1.2⟩, k2.keep (fun k hS => ho k (fun e => ?_)), k3, k4⟩
  subst e
  exact k3 k ((k1.2 k).2 rfl) hS
 ·intro r hr
  obtain ⟨S', a, b'⟩ := g2 r hr
  refine ⟨S', r.loc a (fun k hS => ho k (fun e => ?_)), b'⟩
  subst e
  exact g3 k hSb (b' k hS)
theorem OJ_store {t t' : TypeId} {x y : Operand} {b off n : Nat} {v : Value} {ag : Bool} {cs : Array Value} (μ1 μ2 : List Res) (hμ : μ = μ1 ++ cellsR b cs t' :: μ2) (hx : oev σ x = some (.pointer (some ⟨b, off, none⟩))) (hy : oev σ y = some v)
  (ht : tyi E.P t = some (ag, n)) (hn : v.cells.size = n) (hb : off + n ≤ cs.size) (h1 : ∀ u ∈ v.cells.toList, u.oneCell' = true) :
  OJ E (.store t x y) ty σ μ φ (fun _ μ' φ' => μ' = μ1 ++ cellsR b (wr cs off v.cells.toList) t' :: μ2 ∧ φ' = φ) := fun a w d pos af g K Q hs hm hK => by
 subst hμ
 obtain ⟨S, T, g1, _⟩ := hm.mem
 obtain ⟨S1, ⟨h, _⟩, _⟩ := g1.mem (r := cellsR b cs t') (by simp)
 obtain ⟨w', e1, e2, e3, e4, e5, e6, e7⟩ := run_storeCells_wr (P := E.P) b off t' v.cells.toList 0 cs w h (by simp; omega) h1
 have : (execOp a.eval ⟨d, .store t x y, ty, pos, af, g⟩).run E.P w = .ok .skip w' := by
  simp only [execOp, hs.ev hx, hs.ev hy]
  simp [Instr.storeAt, Instr.sureAddr, storeVar, run_sizeOf' ht, hn, e1]
 unfold Oper.wp
 rw [this, Oper.upon_skip]
 exact hK _ _ _ _ ⟨rfl, rfl⟩ (hm.write (by simpa using e2) e3 e4 e5 e6 e7)
theorem OJ_make {t e : TypeId} {x y : Operand} {k k' : IntKind} {n size bytes : Nat} {z : Value} (he : elt E.P t = some (e, size, bytes)) (hz : zer E.P e = some z) (hx : oev σ x = some (.int k n)) (hy : oev σ y = some (.int k' n)) (hb : bytes * n ≤ 281474976710656) (hn : n ≤ 9223372036854775807) :
  OJ E (.makeSlice t x y) ty σ μ φ (fun u μ' φ' => ∃ b, u = .slice (some ⟨b, 0, none⟩) n n ∧ μ' = cellsR b (madeCells z.cells (n * size)) e :: μ ∧ φ' = φ) := fun a w d pos af g K Q hs hm hK => by
 unfold elt at he
 cases hu : E.P.underlying t with
 | none => rw [hu] at he; simp at he
 | some d' =>
  rw [hu] at he
  cases d' <;> simp at he
  rename_i e'
  obtain ⟨i, hi, rfl, rfl, rfl⟩ := he
  have hz' : i.zero = some z := by
   unfold zer at hz
   rw [hi] at hz
   simpa using hz
  have hb' : (i.bytes : Int) * (n : Int) ≤ 281474976710656 := by
   have : ((i.bytes * n : Nat) : Int) ≤ 281474976710656 := by omega
   rwa [Int.natCast_mul] at this
  have hr := run_make (P := E.P) w t _ i z hu hi hz' k k' n n (by omega) (by omega) hb' (by omega)
  simp only [Int.toNat_natCast] at hr
  have : (execOp a.eval ⟨d, .makeSlice t x y, ty, pos, af, g⟩).run E.P w = .ok (.value (.slice (some ⟨w.heap.size, 0, none⟩) n n)) (w.alloc (.cells (madeCells z.cells (n * i.size)) e')) := by
   simp only [execOp, hs.ev hx, hs.ev hy, Sem.run_bind, hr, Result.andThen_ok]
   rfl
  unfold Oper.wp
  rw [this, Oper.upon_value]
  exact hK _ _ _ _ ⟨w.heap.size, rfl, rfl, rfl⟩ (hm.new _ _)
end
def Enter (P : Program) (f : FuncId) : Bool := match P.funcs[f]? with
 | some fn => fn.body.isSome && !(fn.name == "runtime.NumGoroutine")
 | none => false
def Tri (P : Program) (f : FuncId) (args : List Value) (μ φ : List Res) (post : Value → List Res → List Res → Prop) : Prop :=
 Enter P f = true ∧ ∀ (w : World) (S T : Nat → Prop), Sep w μ S → Fac w φ T → (∀ k, S k → ¬ T k) → (∀ k, T k → k < w.heap.size) →
  Calls P f args.toArray w fun e w' => ∃ v μ' φ', e = .returned v ∧ post v μ' φ' ∧ Keeps S w w' ∧
   ∃ S' T' : Nat → Prop, Sep w' μ' S' ∧ Fac w' φ' T' ∧ (∀ k, S' k → ¬ T' k) ∧ (∀ k, S' k → S k ∨ w.heap.size ≤ k) ∧ (∀ k, T' k → T k ∨ S k ∨ w.heap.size ≤ k) ∧ ∀ k, T' k → k < w'.heap.size
def initS : Nat → List Value → List (Nat × Value)
 | _, [] => []
 | i, v :: vs => (i, v) :: initS (i + 1) vs
theorem initS_lk : ∀ (vs : List Value) (i t : Nat) (v : Value), lk t (initS i vs) = some v → ∃ j, t = i + j ∧ vs[j]? = some v
 | [], _, _, _, h => by simp [initS, lk] at h
 | u :: us, i, t, v, h => by
  simp only [initS, lk] at h
  cases hb : Nat.beq t i with
  | true =>
   rw [hb] at h
   simp only [cond_true, Option.some.injEq] at h
   exact ⟨0, by have := Nat.eq_of_beq_eq_true hb; omega, by simp [h]⟩
  | false =>
   rw [hb] at h
   simp only [cond_false] at h
   obtain ⟨j, h1, h2⟩ := initS_lk us (i + 1) t v h
   exact ⟨j + 1, by omega, by simpa using h2⟩
def Fin (P : Program) (fn : Func) (w0 : World) (S0 T0 : Nat → Prop) (post : Value → List Res → List Res → Prop) : Qt :=
 bodyPost P fn fun e w' => ∃ v μ' φ', e = .returned v ∧ post v μ' φ' ∧ Keeps S0 w0 w' ∧
   ∃ S' T' : Nat → Prop, Sep w' μ' S' ∧ Fac w' φ' T' ∧ (∀ k, S' k → ¬ T' k) ∧ (∀ k, S' k → S0 k ∨ w0.heap.size ≤ k) ∧ (∀ k, T' k → T0 k ∨ S0 k ∨ w0.heap.size ≤ k) ∧ ∀ k, T' k → k < w'.heap.size
theorem Tri_of {P : Program} {f : FuncId} {fn : Func} {c : Code} {args : List Value} {μ φ : List Res} {post : Value → List Res → List Res → Prop} (hf : P.funcs[f]? = some fn) (hb : fn.body = some c) (hE : Enter P f = true)
  {N : Nat} (hN : fn.ntmps = N) (hl : Nat.ble args.length N = true)
  (h : ∀ (w0 : World) (S0 T0 : Nat → Prop), CJ ⟨P, w0, S0, T0, N, []⟩ (Fin P fn w0 S0 T0 post) c (initS 0 args) μ φ) : Tri P f args μ φ post := by
 refine ⟨hE, fun w S T hS hT hd hlt => ?_⟩
 refine calls_of_wp hf hb ?_
 have hl' : args.length ≤ fn.ntmps := by rw [hN]; exact Nat.le_of_ble_eq_true hl
 refine h w S T _ w ⟨rfl, ?_, ?_⟩ ⟨Keeps.refl _ _, S, T, hS, hT, hd, fun k hk => .inl hk, fun k hk => .inl hk, hlt⟩
 ·simp; omega
 ·intro t v hv
  obtain ⟨j, rfl, hj⟩ := initS_lk args 0 t v hv
  have hjl : j < args.length := by
   rcases Nat.lt_or_ge j args.length with h' | h'
   ·exact h'
   ·rw [List.getElem?_eq_none h'] at hj; cases hj
  simp only [Nat.zero_add]
  rw [Array.getElem?_append_left (by simpa using hjl)]
  simpa using hj
section
variable {E : Env} {ty : TypeId} {σ : List (Nat × Value)} {μ φ : List Res}
theorem QJ_fin {fn : Func} {post : Value → List Res → List Res → Prop} {e : Exit} (he : e = .ret ∨ e = .normal) {v : Value} {μ' φ' μr : List Res} (hr : ∀ a w, Slots σ a → Hold w μ → Hold w φ → (results fn a.tmps).run E.P w = .ok v w) (hp : List.Perm μ (μ' ++ μr)) (hf : ∀ r, r ∈ φ' → r ∈ φ)
  (hpost : post v μ' φ') (hds : E.ds = [] := by rfl) : QJ E (Fin E.P fn E.w0 E.S0 E.T0 post) e σ μ φ := fun a w ha hm => by
 have hw := hm.weak hp hf
 obtain ⟨S, T, h1, h2, h3, h4, h5, h6⟩ := hw.mem
 have : bodyPost E.P fn (fun e w' => ∃ v μ' φ', e = .returned v ∧ post v μ' φ' ∧ Keeps E.S0 E.w0 w' ∧
   ∃ S' T' : Nat → Prop, Sep w' μ' S' ∧ Fac w' φ' T' ∧ (∀ k, S' k → ¬ T' k) ∧ (∀ k, S' k → E.S0 k ∨ E.w0.heap.size ≤ k) ∧ (∀ k, T' k → E.T0 k ∨ E.S0 k ∨ E.w0.heap.size ≤ k) ∧ ∀ k, T' k → k < w'.heap.size) .ret a w :=
  ⟨ha.defs.trans hds, v, hr a w ha.slots hm.hold.1 hm.hold.2, v, μ', φ', rfl, hpost, hm.keeps, S, T, h1, h2, h3, h4, h5, h6⟩
 rcases he with rfl | rfl <;> exact this
theorem res_tmp {fn : Func} {P : Program} {t : Tmp} {v : Value} (hfn : fn.results = #[.tmp t]) (hv : lk t σ = some v) : ∀ a w, Slots σ a → Hold w μ → Hold w φ → (results fn a.tmps).run P w = .ok v w := fun a w hs _ _ => by
 rw [results_tmp hfn]
 have := hs t v hv
 simp [this]
theorem res_tmp2 {fn : Func} {P : Program} {t u : Tmp} {v v' : Value} (hfn : fn.results = #[.tmp t, .tmp u]) (hv : lk t σ = some v) (hv' : lk u σ = some v') : ∀ a w, Slots σ a → Hold w μ → Hold w φ → (results fn a.tmps).run P w = .ok (.tuple #[v, v']) w := fun a w hs _ _ => by
 rw [results_tmp2 hfn]
 have h1 := hs t v hv
 have h2 := hs u v' hv'
 simp [h1, h2]
theorem res_none {fn : Func} {P : Program} (hfn : fn.results = #[]) : ∀ a w, Slots σ a → Hold w μ → Hold w φ → (results fn a.tmps).run P w = .ok (.tuple #[]) w := fun a w _ _ _ => by
 rw [results_none hfn]
theorem res_cell {fn : Func} {P : Program} {t : Tmp} {b n : Nat} {ct ct' : TypeId} {vs : List Value} (hfn : fn.results = #[.cell t ct]) (hv : lk t σ = some (.pointer (some ⟨b, 0, none⟩))) (hm : cellsR b vs.toArray ct' ∈ μ) (ht : tyi P ct = some (true, n)) (hl : vs.length = n) :
  ∀ a w, Slots σ a → Hold w μ → Hold w φ → (results fn a.tmps).run P w = .ok (.agg vs.toArray) w := fun a w hs hmu _ => by
 obtain ⟨S, h, _⟩ := hmu _ hm
 have h1 := hs t _ hv
 have := run_loadVarN (P := P) (w := w) (a := ⟨b, 0, none⟩) ht hl (fun j v hj => by
  rw [Addr.add_lit, cell_of_row w b (0 + j) vs.toArray ct' (0, 0) h]
  simpa using hj)
 simp [results, hfn, h1, asAddr, this]
theorem res_cell_tmp {fn : Func} {P : Program} {t u : Tmp} {b n : Nat} {ct ct' : TypeId} {vs : List Value} {v' : Value} (hfn : fn.results = #[.cell t ct, .tmp u]) (hv : lk t σ = some (.pointer (some ⟨b, 0, none⟩))) (hm : cellsR b vs.toArray ct' ∈ μ) (ht : tyi P ct = some (true, n)) (hl : vs.length = n) (hv' : lk u σ = some v') :
  ∀ a w, Slots σ a → Hold w μ → Hold w φ → (results fn a.tmps).run P w = .ok (.tuple #[.agg vs.toArray, v']) w := fun a w hs hmu _ => by
 obtain ⟨S, h, _⟩ := hmu _ hm
 have h1 := hs t _ hv
 have h2 := hs u _ hv'
 have := run_loadVarN (P := P) (w := w) (a := ⟨b, 0, none⟩) ht hl (fun j v hj => by
  rw [Addr.add_lit, cell_of_row w b (0 + j) vs.toArray ct' (0, 0) h]
  simpa using hj)
 simp [results, hfn, h1, h2, asAddr, this]
theorem run_enter {P : Program} {f : FuncId} (h : Enter P f = true) (args : Array Value) (w : World) : (callFunc f args).run P w = .ok (.enter f args) w := by
 unfold Enter at h
 cases hf : P.funcs[f]? with
 | none => rw [hf] at h; simp at h
 | some fn =>
  rw [hf] at h
  simp only [Bool.and_eq_true, Bool.not_eq_true'] at h
  have hb : fn.body.isNone = false := by
   cases hbb : fn.body with
   | none => rw [hbb] at h; simp at h
   | some _ => rfl
  simp only [callFunc, Sem.run_bind, run_program, Result.andThen_ok, hf, h.2, hb, Bool.false_eq_true, if_false, Sem.run_pure]
theorem OJ_call {x : Operand} {xs : Array Operand} {at_ : Array TypeId} {f : FuncId} {cap : Array Value} {vs : List Value} {μ1 μr φ1 : List Res} {post : Value → List Res → List Res → Prop} (hx : oev σ x = some (.func (.func f) #[] cap)) (hxs : oevs σ xs.toList = some vs)
  (ht : Tri E.P f (vs ++ cap.toList) μ1 φ1 post) (hμ : List.Perm μ (μ1 ++ μr)) (hφ : ∀ r, r ∈ φ1 → r ∈ φ) :
  OJ E (.call { callee := .value x, args := xs, argTypes := at_ }) ty σ μ φ (fun v μ' φ' => ∃ μ1' φ1', post v μ1' φ1' ∧ μ' = μ1' ++ μr ∧ φ' = φ1' ++ φ) := fun a w d pos af g K Q hs hm hK => by
 obtain ⟨hent, hcalls⟩ := ht
 have hargs : (xs.map a.eval) ++ cap = (vs ++ cap.toList).toArray := by
  have := hs.evs hxs
  apply Array.toList_inj.1
  simp [this]
 have hrun : (execOp a.eval ⟨d, .call { callee := .value x, args := xs, argTypes := at_ }, ty, pos, af, g⟩).run E.P w = .ok (.enter f (vs ++ cap.toList).toArray) w := by
  simp only [execOp, resolve, hs.ev hx, Deferred.ofValue, Sem.run_bind, Sem.run_pure, Result.andThen_ok, invoke]
  have e : (#[] ++ Array.map a.eval xs ++ cap) = (vs ++ cap.toList).toArray := by rw [← hargs]; simp
  rw [e, run_enter hent]
 unfold Oper.wp
 rw [hrun, Oper.upon_enter]
 obtain ⟨S, T, h1, h2, h3, h4, h5, h6⟩ := hm.mem
 obtain ⟨S1, S2, g1, g2, gd, gs⟩ := (h1.perm hμ).split
 have hc := hcalls w S1 T g1 (fun r hr => h2 r (hφ r hr)) (fun k hk => h3 k ((gs k).2 (.inl hk))) h6
 refine hc.mono ?_
 rintro e w' ⟨v, μ', φ', rfl, hpost, hkeep, S', T', k1, k2, k3, k4, k5, k6⟩
 refine hK v (μ' ++ μr) (φ' ++ φ) w' ⟨μ', φ', hpost, rfl, rfl⟩ ?_
 have hS2lt : ∀ k, S2 k → k < w.heap.size := fun k hk => g2.lt hk
 have hfr : ∀ k, S2 k → w'.heap[k]? = w.heap[k]? := fun k hk => hkeep.block k (hS2lt k hk) (fun hh => gd k hh hk)
 have hd2 : ∀ k, S' k → ¬ S2 k := fun k hk hk2 => by
  rcases k4 k hk with h' | h'
  ·exact gd k h' hk2
  ·have := hS2lt k hk2; omega
 refine ⟨hm.keeps.trans hkeep (fun k hk => h4 k ((gs k).2 (.inl hk))), fun k => S' k ∨ S2 k, fun k => T' k ∨ T k, k1.app (g2.keep hfr) hd2, ?_, ?_, ?_, ?_, ?_⟩
 ·intro r hr
  rcases List.mem_append.1 hr with hr | hr
  ·obtain ⟨S3, a1, a2⟩ := k2 r hr
   exact ⟨S3, a1, fun k hk => .inl (a2 k hk)⟩
  ·obtain ⟨S3, a1, a2⟩ := h2 r hr
   exact ⟨S3, r.loc a1 (fun k hk => hkeep.block k (r.lt a1 hk) (fun hh => h3 k ((gs k).2 (.inl hh)) (a2 k hk))), fun k hk => .inr (a2 k hk)⟩
 ·rintro k (hS | hS) (hT | hT)
  ·exact k3 k hS hT
  ·rcases k4 k hS with h' | h'
   ·exact h3 k ((gs k).2 (.inl h')) hT
   ·have := h6 k hT; omega
  ·rcases k5 k hT with h' | h' | h'
   ·exact h3 k ((gs k).2 (.inr hS)) h'
   ·exact gd k h' hS
   ·have := hS2lt k hS; omega
  ·exact h3 k ((gs k).2 (.inr hS)) hT
 ·rintro k (hS | hS)
  ·rcases k4 k hS with h' | h'
   ·exact h4 k ((gs k).2 (.inl h'))
   ·exact .inr (by have := hm.keeps.size; omega)
  ·exact h4 k ((gs k).2 (.inr hS))
 ·rintro k (hT | hT)
  ·rcases k5 k hT with h' | h' | h'
   ·exact h5 k h'
   ·exact .inr (h4 k ((gs k).2 (.inl h')))
   ·exact .inr (.inr (by have := hm.keeps.size; omega))
  ·exact h5 k hT
 ·rintro k (hT | hT)
  ·exact k6 k hT
  ·exact Nat.lt_of_lt_of_le (h6 k hT) hkeep.size
theorem YJ_ext {x : Operand} {xs : Array Operand} {at_ : Array TypeId} {f : FuncId} {vs : List Value} {v : Value} (hx : oev σ x = some (.func (.func f) #[] #[])) (hxs : oevs σ xs.toList = some vs)
  (he : ∀ w, (callFunc f vs.toArray).run E.P w = .ok (.value v) w) : YJ E (.call { callee := .value x, args := xs, argTypes := at_ }) ty σ μ φ v := fun a w d pos af g hs _ _ => by
 have hargs : xs.map a.eval = vs.toArray := by
  have := hs.evs hxs
  apply Array.toList_inj.1
  simp [this]
 simp only [execOp, resolve, hs.ev hx, Deferred.ofValue, Sem.run_bind, Sem.run_pure, Result.andThen_ok, invoke]
 have e : (#[] ++ Array.map a.eval xs ++ #[]) = vs.toArray := by rw [← hargs]; simp
 rw [e, he]
def RetX {ι : Type} (C : ι → Prop) (f : ι → Value) (m g : ι → List Res) : Value → List Res → List Res → Prop := fun v μ φ => ∃ x, C x ∧ v = f x ∧ μ = m x ∧ φ = g x
def Ret0 (v0 : Value) : Value → List Res → List Res → Prop := fun v μ φ => v = v0 ∧ μ = [] ∧ φ = []
variable {Q : Qt} {ops : Array Oper} {rest : List Oper} {d : Tmp} {pos : String} {af : Array Edge} {g : Option (Nat × Bool)} {ml pl : List Res} {fuel : Nat} {listed : Array Bool}
theorem LJ_box {t : TypeId} {x : Operand} {v : Value} {cs : Array Value} (hg : grd ops σ g = some true) (hd : Nat.blt d E.N = true) (hx : oev σ x = some v) (hc : v.cells = cs)
  (h : ∀ b, LJ E Q ops rest ((d, .pointer (some ⟨b, 0, none⟩)) :: σ) (cellsR b cs t :: μ) φ) : LJ E Q ops (⟨some d, .box t x, ty, pos, af, g⟩ :: rest) σ μ φ :=
 LJ_o hg hd (OJ_box hx) (by rintro _ _ _ ⟨b, rfl, rfl, rfl⟩; subst hc; exact h b)
theorem LJ_alloc {t : TypeId} {v : Value} {cs : Array Value} (hg : grd ops σ g = some true) (hd : Nat.blt d E.N = true) (hz : zer E.P t = some v) (hc : v.cells = cs)
  (h : ∀ b, LJ E Q ops rest ((d, .pointer (some ⟨b, 0, none⟩)) :: σ) (cellsR b cs t :: μ) φ) : LJ E Q ops (⟨some d, .alloc t, ty, pos, af, g⟩ :: rest) σ μ φ :=
 LJ_o hg hd (OJ_alloc hz) (by rintro _ _ _ ⟨b, rfl, rfl, rfl⟩; subst hc; exact h b)
theorem LJ_make {t e : TypeId} {x y : Operand} {k k' : IntKind} {n size bytes : Nat} {z : Value} {ni : Int} (hg : grd ops σ g = some true) (hd : Nat.blt d E.N = true) (he : elt E.P t = some (e, size, bytes)) (hz : zer E.P e = some z)
  (hx : oev σ x = some (.int k ni)) (hy : oev σ y = some (.int k' ni)) (hni : ni = (n : Int)) (hb : bytes * n ≤ 281474976710656) (hn : n ≤ 9223372036854775807)
  (h : ∀ b, LJ E Q ops rest ((d, .slice (some ⟨b, 0, none⟩) n n) :: σ) (cellsR b (madeCells z.cells (n * size)) e :: μ) φ) : LJ E Q ops (⟨some d, .makeSlice t x y, ty, pos, af, g⟩ :: rest) σ μ φ := by
 subst hni
 exact LJ_o hg hd (OJ_make he hz hx hy hb hn) (by rintro _ _ _ ⟨b, rfl, rfl, rfl⟩; exact h b)
theorem OJ_storeK {t t' : TypeId} {x y : Operand} {b off n : Nat} {v : Value} {ag : Bool} {cs cs' : Array Value} {μ' : List Res} (k : Nat) (hk : μ[k]? = some (cellsR b cs t')) (hx : oev σ x = some (.pointer (some ⟨b, off, none⟩))) (hy : oev σ y = some v)
  (ht : tyi E.P t = some (ag, n)) (hn : v.cells.size = n) (hb : off + n ≤ cs.size) (h1 : v.cells.toList.all (·.oneCell') = true) (hw : wr cs off v.cells.toList = cs') (hμ' : μ.set k (cellsR b cs' t') = μ') :
  OJ E (.store t x y) ty σ μ φ (fun _ μ'' φ' => μ'' = μ' ∧ φ' = φ) := by
 have hlt : k < μ.length := by
  rcases Nat.lt_or_ge k μ.length with h' | h'
  ·exact h'
  ·rw [List.getElem?_eq_none h'] at hk; cases hk
 have e : μ = μ.take k ++ cellsR b cs t' :: μ.drop (k + 1) := by
  have hk' : μ[k] = cellsR b cs t' := by rw [List.getElem?_eq_getElem hlt] at hk; exact Option.some.inj hk
  rw [← hk', List.getElem_cons_drop, List.take_append_drop]
 have e2 : μ' = μ.take k ++ cellsR b cs' t' :: μ.drop (k + 1) := by
  rw [← hμ', List.set_eq_take_append_cons_drop, if_pos hlt]
 subst hw
 rw [e2]
 exact OJ_store (μ.take k) (μ.drop (k + 1)) e hx hy ht hn hb (List.all_eq_true.1 h1)
theorem LJ_store {t t' : TypeId} {x y : Operand} {b off n : Nat} {v : Value} {ag : Bool} {cs cs' : Array Value} {μ' : List Res} (k : Nat) (hg : grd ops σ g = some true) (hk : μ[k]? = some (cellsR b cs t')) (hx : oev σ x = some (.pointer (some ⟨b, off, none⟩))) (hy : oev σ y = some v)
  (ht : tyi E.P t = some (ag, n)) (hn : v.cells.size = n) (hb : off + n ≤ cs.size) (h1 : v.cells.toList.all (·.oneCell') = true) (hw : wr cs off v.cells.toList = cs') (hμ' : μ.set k (cellsR b cs' t') = μ')
  (h : LJ E Q ops rest σ μ' φ) : LJ E Q ops (⟨none, .store t x y, ty, pos, af, g⟩ :: rest) σ μ φ :=
 LJ_o0 hg (OJ_storeK k hk hx hy ht hn hb h1 hw hμ') (by rintro _ _ _ ⟨rfl, rfl⟩; exact h)
theorem AJ_store {t t' : TypeId} {x y : Operand} {b off n : Nat} {v : Value} {ag : Bool} {cs cs' : Array Value} {μ' : List Res} (i k : Nat) (hi : ops[i]? = some ⟨none, .store t x y, ty, pos, af, g⟩)
  (hr : Region.ready .any ops listed = [i]) (hg : grd ops σ g = some true) (hk : μ[k]? = some (cellsR b cs t')) (hx : oev σ x = some (.pointer (some ⟨b, off, none⟩))) (hy : oev σ y = some v)
  (ht : tyi E.P t = some (ag, n)) (hn : v.cells.size = n) (hb : off + n ≤ cs.size) (h1 : v.cells.toList.all (·.oneCell') = true) (hw : wr cs off v.cells.toList = cs') (hμ' : μ.set k (cellsR b cs' t') = μ')
  (hml : (∀ r, r ∈ ml → r ∈ μ) → ∀ r, r ∈ ml → r ∈ μ') (h : AJ E Q ops ml pl fuel (listed.setIfInBounds i true) σ μ' φ) : AJ E Q ops ml pl (fuel + 1) listed σ μ φ :=
 AJ_o0 i hi hr hg (OJ_storeK k hk hx hy ht hn hb h1 hw hμ') (by rintro _ _ _ ⟨rfl, rfl⟩; exact ⟨hml, fun _ _ h => h, h⟩)
theorem LJ_call0 {x : Operand} {xs : Array Operand} {at_ : Array TypeId} {f : FuncId} {cap : Array Value} {vs vs' : List Value} {φ1 : List Res} {v0 : Value} (hg : grd ops σ g = some true) (hd : Nat.blt d E.N = true)
  (hx : oev σ x = some (.func (.func f) #[] cap)) (hxs : oevs σ xs.toList = some vs) (hv : vs ++ cap.toList = vs') (ht : Tri E.P f vs' [] φ1 (Ret0 v0)) (hφ : ∀ r, r ∈ φ1 → r ∈ φ)
  (h : LJ E Q ops rest ((d, v0) :: σ) μ φ) : LJ E Q ops (⟨some d, .call { callee := .value x, args := xs, argTypes := at_ }, ty, pos, af, g⟩ :: rest) σ μ φ := by
 subst hv
 exact LJ_o hg hd (OJ_call (μr := μ) hx hxs ht (List.Perm.refl _) hφ) (by rintro _ _ _ ⟨_, _, ⟨rfl, rfl, rfl⟩, rfl, rfl⟩; exact h)
theorem AJ_call0 {x : Operand} {xs : Array Operand} {at_ : Array TypeId} {f : FuncId} {cap : Array Value} {vs vs' : List Value} {φ1 : List Res} {v0 : Value} (i : Nat) (hi : ops[i]? = some ⟨some d, .call { callee := .value x, args := xs, argTypes := at_ }, ty, pos, af, g⟩)
  (hr : Region.ready .any ops listed = [i]) (hg : grd ops σ g = some true) (hd : Nat.blt d E.N = true)
  (hx : oev σ x = some (.func (.func f) #[] cap)) (hxs : oevs σ xs.toList = some vs) (hv : vs ++ cap.toList = vs') (ht : Tri E.P f vs' [] φ1 (Ret0 v0)) (hφ : ∀ r, r ∈ φ1 → r ∈ φ)
  (h : AJ E Q ops ml pl fuel (listed.setIfInBounds i true) ((d, v0) :: σ) μ φ) : AJ E Q ops ml pl (fuel + 1) listed σ μ φ := by
 subst hv
 exact AJ_o i hi hr hg hd (OJ_call (μr := μ) hx hxs ht (List.Perm.refl _) hφ) (by rintro _ _ _ ⟨_, _, ⟨rfl, rfl, rfl⟩, rfl, rfl⟩; exact ⟨fun _ _ h => h, fun _ _ h => h, h⟩)
theorem LJ_callX {ι : Type} {C : ι → Prop} {fv : ι → Value} {gf : ι → List Res} {x : Operand} {xs : Array Operand} {at_ : Array TypeId} {f : FuncId} {cap : Array Value} {vs vs' : List Value} {φ1 : List Res} (hg : grd ops σ g = some true) (hd : Nat.blt d E.N = true)
  (hx : oev σ x = some (.func (.func f) #[] cap)) (hxs : oevs σ xs.toList = some vs) (hv : vs ++ cap.toList = vs') (ht : Tri E.P f vs' [] φ1 (RetX C fv (fun _ => []) gf)) (hφ : ∀ r, r ∈ φ1 → r ∈ φ)
  (h : ∀ x, C x → LJ E Q ops rest ((d, fv x) :: σ) μ (gf x ++ φ)) : LJ E Q ops (⟨some d, .call { callee := .value x, args := xs, argTypes := at_ }, ty, pos, af, g⟩ :: rest) σ μ φ := by
 subst hv
 exact LJ_o hg hd (OJ_call (μr := μ) hx hxs ht (List.Perm.refl _) hφ) (by rintro _ _ _ ⟨_, _, ⟨x, hc, rfl, rfl, rfl⟩, rfl, rfl⟩; exact h x hc)
theorem AJ_callX {ι : Type} {C : ι → Prop} {fv : ι → Value} {gf : ι → List Res} {x : Operand} {xs : Array Operand} {at_ : Array TypeId} {f : FuncId} {cap : Array Value} {vs vs' : List Value} {φ1 : List Res} (i : Nat) (hi : ops[i]? = some ⟨some d, .call { callee := .value x, args := xs, argTypes := at_ }, ty, pos, af, g⟩)
  (hr : Region.ready .any ops listed = [i]) (hg : grd ops σ g = some true) (hd : Nat.blt d E.N = true)
  (hx : oev σ x = some (.func (.func f) #[] cap)) (hxs : oevs σ xs.toList = some vs) (hv : vs ++ cap.toList = vs') (ht : Tri E.P f vs' [] φ1 (RetX C fv (fun _ => []) gf)) (hφ : ∀ r, r ∈ φ1 → r ∈ φ)
  (h : ∀ x, C x → AJ E Q ops ml pl fuel (listed.setIfInBounds i true) ((d, fv x) :: σ) μ (gf x ++ φ)) : AJ E Q ops ml pl (fuel + 1) listed σ μ φ := by
 subst hv
 exact AJ_o i hi hr hg hd (OJ_call (μr := μ) hx hxs ht (List.Perm.refl _) hφ) (by rintro _ _ _ ⟨_, _, ⟨x, hc, rfl, rfl, rfl⟩, rfl, rfl⟩; exact ⟨fun _ _ h => h, fun _ _ h => List.mem_append_right _ h, h x hc⟩)
theorem Tri_of_calls {P : Program} {f : FuncId} {args : List Value} {v : Value} (hE : Enter P f = true) (h : ∀ w, Calls P f args.toArray w fun e w' => e = .returned v ∧ w' = w) : Tri P f args [] [] (Ret0 v) :=
 ⟨hE, fun w S T hS _ hd hlt => (h w).mono fun _ _ ⟨he, hw⟩ => by
  subst hw
  exact ⟨v, [], [], he, ⟨rfl, rfl, rfl⟩, Keeps.refl _ _, S, T, hS, (fun r hr => nomatch hr), hd, fun k hk => Or.inl hk, fun k hk => Or.inl hk, hlt⟩⟩
theorem Tri.conv {P : Program} {f : FuncId} {args : List Value} {μ φ : List Res} {post post' : Value → List Res → List Res → Prop} (h : Tri P f args μ φ post) (hp : ∀ v μ φ, post v μ φ → post' v μ φ) : Tri P f args μ φ post' :=
 ⟨h.1, fun w S T h1 h2 h3 h4 => (h.2 w S T h1 h2 h3 h4).mono fun _ _ ⟨v, μ', φ', he, hq, r⟩ => ⟨v, μ', φ', he, hp _ _ _ hq, r⟩⟩
theorem iop_add {a b : Int} (h : -9223372036854775808 ≤ a + b ∧ a + b ≤ 9223372036854775807) : iop .add .i64 a b = some (.int .i64 (a + b)) := by
 simp only [iop, IntKind.wrap_i64]; congr 2; omega
theorem iop_sub {a b : Int} (h : -9223372036854775808 ≤ a - b ∧ a - b ≤ 9223372036854775807) : iop .sub .i64 a b = some (.int .i64 (a - b)) := by
 simp only [iop, IntKind.wrap_i64]; congr 2; omega
theorem iop_mul {a b : Int} (h : -9223372036854775808 ≤ a * b ∧ a * b ≤ 9223372036854775807) : iop .mul .i64 a b = some (.int .i64 (a * b)) := by
 simp only [iop, IntKind.wrap_i64]; congr 2; generalize a * b = c at *; omega
def lay1 (P : Program) (t : TypeId) : Option (List Value) :=
 match P.info? t, P.underlying t with
 | some it, some (.struct fs) => match it.zero, fs.toList.mapM (fun f => (P.info? f.type).map fun i => (f.offset, i.size)) with
  | some z, some places => if places = (List.range places.length).map (fun i => (i, 1)) ∧ z.cells.size = places.length then some z.cells.toList else none
  | _, _ => none
 | some it, some (.array _ e) => match it.zero, P.info? e with
  | some z, some ie => if ie.size = 1 then some z.cells.toList else none
  | _, _ => none
 | _, _ => none
def setAll (cs : List Value) : List (Nat × Value) → List Value
 | [] => cs
 | (i, v) :: r => setAll (cs.set i v) r
def pvOk (n : Nat) (pvs : List (Nat × Value)) : Bool := pvs.all fun p => Nat.blt p.1 n && p.2.oneCell'
theorem fill_setAll (place : Nat → Option (Nat × Nat)) : ∀ (pvs : List (Nat × Value)) (cs : Array Value), (∀ i, i < cs.size → place i = some (i, 1)) → pvOk cs.size pvs = true →
  Instr.fill place cs pvs = some (setAll cs.toList pvs).toArray
 | [], cs, _, _ => by simp [Instr.fill, setAll]
 | (i, v) :: r, cs, hpl, hok => by
  simp only [pvOk, List.all_cons, Bool.and_eq_true] at hok
  obtain ⟨⟨h1, h2⟩, h3⟩ := hok
  have hi : i < cs.size := Nat.le_of_ble_eq_true h1
  have hv : v.cells = #[v] := by cases v <;> first | rfl | (simp [Value.oneCell'] at h2)
  have ih := fill_setAll place r (cs.setIfInBounds i v) (by simpa using hpl) (by simpa [pvOk] using h3)
  simp only [Instr.fill, hpl i hi, hv]
  have hc : ¬ ((#[v] : Array Value).size ≠ 1 || i + (#[v] : Array Value).size > cs.size) = true := by simp; omega
  rw [if_neg hc]
  have hz : (#[v] : Array Value).zipIdx.foldl (fun cs (x : Value × Nat) => cs.setIfInBounds (i + x.2) x.1) cs = cs.setIfInBounds i v := by simp
  rw [show (fun (cs : Array Value) (x : Value × Nat) => match x with | (c, j) => cs.setIfInBounds (i + j) c) = (fun cs (x : Value × Nat) => cs.setIfInBounds (i + x.2) x.1) from rfl, hz, ih]
  simp [setAll]
theorem built_of_lay1 {P : Program} {t : TypeId} {zs : List Value} {pvs : List (Nat × Value)} (hl : lay1 P t = some zs) (hp : pvOk zs.length pvs = true) : P.built t pvs = some (setAll zs pvs).toArray := by
 unfold lay1 at hl
 unfold Program.built
 cases hi : P.info? t with
 | none => rw [hi] at hl; simp at hl
 | some it =>
  cases hu : P.underlying t with
  | none => rw [hi, hu] at hl; simp at hl
  | some d =>
   rw [hi, hu] at hl
   cases d <;> simp only [reduceCtorEq] at hl
   case struct fs =>
    dsimp only at hl ⊢
    cases hz : it.zero with
    | none => rw [hz] at hl; simp at hl
    | some z =>
     rw [hz] at hl
     cases hm : fs.toList.mapM (fun f => (P.info? f.type).map fun i => (f.offset, i.size)) with
     | none => rw [hm] at hl; simp at hl
     | some places =>
      rw [hm] at hl
      dsimp only at hl ⊢
      by_cases hc : places = (List.range places.length).map (fun i => (i, 1)) ∧ z.cells.size = places.length
      ·rw [if_pos hc] at hl
       simp only [Option.some.injEq] at hl
       subst hl
       rw [fill_setAll _ pvs z.cells ?_ (by simpa using hp)]
       intro i hi
       rw [hc.2] at hi
       rw [List.getElem?_toArray, hc.1]
       simp [hi]
      ·rw [if_neg hc] at hl; simp at hl
   case array n e =>
    dsimp only at hl ⊢
    cases hz : it.zero with
    | none => rw [hz] at hl; simp at hl
    | some z =>
     rw [hz] at hl
     cases hm : P.info? e with
     | none => rw [hm] at hl; simp at hl
     | some ie =>
      rw [hm] at hl
      dsimp only at hl ⊢
      by_cases hc : ie.size = 1
      ·rw [if_pos hc] at hl
       simp only [Option.some.injEq] at hl
       subst hl
       rw [fill_setAll _ pvs z.cells ?_ (by simpa using hp)]
       intro i hi
       simp [hc]
      ·rw [if_neg hc] at hl; simp at hl
def oevP (σ : List (Nat × Value)) : List (Nat × Operand) → Option (List (Nat × Value))
 | [] => some []
 | (i, x) :: xs => match oev σ x, oevP σ xs with
  | some v, some vs => some ((i, v) :: vs)
  | _, _ => none
theorem Slots.evP {σ : List (Nat × Value)} {a : Act} (h : Slots σ a) : ∀ {xs : List (Nat × Operand)} {vs : List (Nat × Value)}, oevP σ xs = some vs → xs.map (fun p => (p.1, a.eval p.2)) = vs
 | [], vs, hx => by simpa [oevP] using hx
 | (i, x) :: xs, vs, hx => by
  simp only [oevP] at hx
  cases h1 : oev σ x with
  | none => rw [h1] at hx; simp at hx
  | some v =>
   cases h2 : oevP σ xs with
   | none => rw [h1, h2] at hx; simp at hx
   | some us =>
    rw [h1, h2] at hx
    simp only [Option.some.injEq] at hx
    subst hx
    simp [h.ev h1, h.evP h2]
theorem YJ_build1 {t : TypeId} {parts : Array (Nat × Operand)} {pvs : List (Nat × Value)} {zs cs : List Value} (hl : lay1 E.P t = some zs) (hp : oevP σ parts.toList = some pvs) (hok : pvOk zs.length pvs = true) (hc : setAll zs pvs = cs) :
  YJ E (.build t parts) ty σ μ φ (.agg cs.toArray) := by
 subst hc
 refine YJ_build (pvs := pvs) (fun a hs => ?_) (built_of_lay1 hl hok)
 have := hs.evP hp
 simpa using this
def selR : List Nat → List Res → List Res
 | [], _ => []
 | i :: is, μ => match μ[i]? with
  | some r => r :: selR is μ
  | none => selR is μ
theorem selR_sub : ∀ (is : List Nat) (μ : List Res), ∀ r, r ∈ selR is μ → r ∈ μ
 | [], _, r, h => by simp [selR] at h
 | i :: is, μ, r, h => by
  unfold selR at h
  cases hi : μ[i]? with
  | none => rw [hi] at h; exact selR_sub is μ r h
  | some r' =>
   rw [hi] at h
   rcases List.mem_cons.1 h with rfl | h
   ·exact List.mem_of_getElem? hi
   ·exact selR_sub is μ r h
def AllIn (μ : List Res) : List Res → Prop
 | [] => True
 | r :: rs => r ∈ μ ∧ AllIn μ rs
theorem AllIn.sub {μ : List Res} : ∀ {ml : List Res}, AllIn μ ml → ∀ r, r ∈ ml → r ∈ μ
 | _ :: _, h, _, .head _ => h.1
 | _ :: _, h, _, .tail _ hm => AllIn.sub h.2 _ hm
theorem CJ_condF2 {c : Operand} {x y : Code} {b : Bool} (hc : oev σ c = some (.bool b)) (hb : b = false) (h : CJ E Q y σ μ φ) : CJ E Q (.cond c x y) σ μ φ := by
 subst hb; exact CJ_condF hc h
theorem OJ_buildSlice {t e : TypeId} {len bytes : Nat} {z : Value} {parts : Array (Nat × Operand)} {pvs : List (Nat × Value)} {cs : List Value} (he : elt E.P t = some (e, 1, bytes)) (hz : zer E.P e = some z) (hz1 : z.oneCell' = true) (hl : len ≤ 16777216)
  (hp : oevP σ parts.toList = some pvs) (hok : pvOk len pvs = true) (hc : setAll (List.replicate len z) pvs = cs) :
  OJ E (.buildSlice t len parts) ty σ μ φ (fun u μ' φ' => ∃ b, u = .slice (some ⟨b, 0, none⟩) len len ∧ μ' = cellsR b cs.toArray e :: μ ∧ φ' = φ) := fun a w d pos af g K Q hs hm hK => by
 subst hc
 unfold elt at he
 cases hu : E.P.underlying t with
 | none => rw [hu] at he; simp at he
 | some d' =>
  rw [hu] at he
  cases d' <;> simp at he
  rename_i e'
  obtain ⟨i, hi, rfl, hi1, rfl⟩ := he
  have hz' : (zeroValue e').run E.P w = .ok z w := run_zeroValue' hz w
  have hsz : (sizeOf e').run E.P w = .ok 1 w := by simp [sizeOf, typeInfo, hi, hi1]
  have hcell : z.cells = #[z] := by cases z <;> first | rfl | (simp [Value.oneCell'] at hz1)
  have hparts : (parts.map fun (p : Nat × Operand) => (p.1, a.eval p.2)).toList = pvs := by
   have := hs.evP hp
   simpa using this
  have hfill := fill_setAll (fun i => some (i * 1, 1)) pvs (Array.replicate len z) (by simp) (by simpa using hok)
  have hzero : ((Array.range (len * 1)).map (#[z][· % (#[z] : Array Value).size]!)) = Array.replicate len z := by
   apply Array.ext
   ·simp
   ·intro j h1 h2
    simp [Nat.mod_one]
  have : (execOp a.eval ⟨d, .buildSlice t len parts, ty, pos, af, g⟩).run E.P w = .ok (.value (.slice (some ⟨w.heap.size, 0, none⟩) len len)) (w.alloc (.cells (setAll (List.replicate len z) pvs).toArray e')) := by
   simp only [execOp, Instr.buildSlice, Sem.run_bind, run_underlying hu, Result.andThen_ok, hsz]
   rw [if_neg (by omega)]
   by_cases h0 : len * 1 = 0
   ·have hl0 : len = 0 := by omega
    subst hl0
    rw [if_pos rfl]
    have hpv : pvs = [] := by
     cases pvs with
     | nil => rfl
     | cons p r => simp [pvOk] at hok
    subst hpv
    simp only [Sem.run_bind, Sem.run_pure, Result.andThen_ok]
    rw [hparts]
    simp [Instr.fill, setAll, newRow, newObj, Sem.run, Array.range_zero']
   ·rw [if_neg h0]
    simp only [Sem.run_bind, hz', Result.andThen_ok, Sem.run_pure, hcell]
    rw [hparts, hzero, hfill]
    simp [newRow, newObj, Sem.run]
  unfold Oper.wp
  rw [this, Oper.upon_value]
  exact hK _ _ _ _ ⟨w.heap.size, rfl, rfl, rfl⟩ (hm.new _ _)
theorem LJ_buildSlice {t e : TypeId} {len bytes : Nat} {z : Value} {parts : Array (Nat × Operand)} {pvs : List (Nat × Value)} {cs : List Value} (hg : grd ops σ g = some true) (hd : Nat.blt d E.N = true) (he : elt E.P t = some (e, 1, bytes)) (hz : zer E.P e = some z) (hz1 : z.oneCell' = true) (hl : len ≤ 16777216)
  (hp : oevP σ parts.toList = some pvs) (hok : pvOk len pvs = true) (hc : setAll (List.replicate len z) pvs = cs)
  (h : ∀ b, LJ E Q ops rest ((d, .slice (some ⟨b, 0, none⟩) len len) :: σ) (cellsR b cs.toArray e :: μ) φ) : LJ E Q ops (⟨some d, .buildSlice t len parts, ty, pos, af, g⟩ :: rest) σ μ φ :=
 LJ_o hg hd (OJ_buildSlice he hz hz1 hl hp hok hc) (by rintro _ _ _ ⟨b, rfl, rfl, rfl⟩; exact h b)
def U (l : List Nat) : List Value := l.map fun (x : Nat) => .int .u64 (x : Int)
theorem U_get {l : List Nat} {j : Nat} (h : j < l.length) : (U l)[j]? = some (.int .u64 ((l.getD j 0 : Nat) : Int)) := by
 simp [U, List.getD, List.getElem?_eq_getElem h]
theorem U_take (l : List Nat) (k : Nat) : (U l).take k = U (l.take k) := by simp [U, List.map_take]
theorem YJ_sliceH {xt e : TypeId} {x y : Operand} {A : Option Addr} {n c m size bb : Nat} {k : IntKind} {h : Int} (hx : oev σ x = some (.slice A n c)) (hy : oev σ y = some (.int k h)) (he : elt E.P xt = some (e, size, bb)) (hm : h = (m : Int)) (h1 : m ≤ c) :
  YJ E (.slice xt x none (some y) none) ty σ μ φ (.slice A m c) := fun ac w _ _ _ _ hs _ _ => by
 subst hm
 unfold elt at he
 cases hu : E.P.underlying xt with
 | none => rw [hu] at he; simp at he
 | some d =>
  rw [hu] at he
  cases d <;> simp at he
  rename_i e'
  obtain ⟨i', hi, rfl, rfl, rfl⟩ := he
  have hel : E.P.elem xt = e' := by simp [Program.elem, hu]
  have hu' : E.P.underlying xt = some (.slice (E.P.elem xt)) := by rw [hel]; exact hu
  have hsz : (sizeOf (E.P.elem xt)).run E.P w = .ok i'.size w := by rw [hel]; simp [sizeOf, typeInfo, hi]
  simp only [execOp, Option.map_none, Option.map_some, hs.ev hx, hs.ev hy, Sem.run_bind, run_sliceAt_slice w xt _ _ _ _ hu']
  rw [run_slice_h w xt A n c hu' k (m : Int) (by omega) (by omega), hsz]
  have e0 : (fun a : Addr => a.add 0) = id := by
   funext a; simp [Addr.add]
  simp [sliced, e0]
theorem OKm.addF {w : World} {μ φ : List Res} (h : OKm E μ φ w) {r r' : Res} (hr : r ∈ φ) (hi : ∀ S, r.p w S → ∃ S', r'.p w S' ∧ ∀ k, S' k → S k) : OKm E μ (r' :: φ) w := by
 refine ⟨h.keeps, ?_⟩
 obtain ⟨S, T, h1, h2, h3, h4, h5, h6⟩ := h.mem
 refine ⟨S, T, h1, ?_, h3, h4, h5, h6⟩
 intro q hq
 rcases List.mem_cons.1 hq with rfl | hq
 ·obtain ⟨S1, a1, a2⟩ := h2 r hr
  obtain ⟨S2, b1, b2⟩ := hi S1 a1
  exact ⟨S2, b1, fun k hk => a2 k (b2 k hk)⟩
 ·exact h2 q hq
theorem QJ_addF {e : Exit} {r r' : Res} (hr : r ∈ φ) (hi : ∀ w S, r.p w S → ∃ S', r'.p w S' ∧ ∀ k, S' k → S k) (h : QJ E Q e σ μ (r' :: φ)) : QJ E Q e σ μ φ := fun a w ha hm => h a w ha (hm.addF hr (hi w))
theorem LJ_addF {r r' : Res} (hr : r ∈ φ) (hi : ∀ w S, r.p w S → ∃ S', r'.p w S' ∧ ∀ k, S' k → S k) (h : LJ E Q ops rest σ μ (r' :: φ)) : LJ E Q ops rest σ μ φ := fun a w ha hm => h a w ha (hm.addF hr (hi w))
theorem OKm.newF {w : World} {μ φ : List Res} (h : OKm E μ φ w) {r' : Res} (hi : r'.p w (fun _ => False)) : OKm E μ (r' :: φ) w := by
 refine ⟨h.keeps, ?_⟩
 obtain ⟨S, T, h1, h2, h3, h4, h5, h6⟩ := h.mem
 refine ⟨S, T, h1, ?_, h3, h4, h5, h6⟩
 intro q hq
 rcases List.mem_cons.1 hq with rfl | hq
 ·exact ⟨_, hi, fun k hk => hk.elim⟩
 ·exact h2 q hq
theorem QJ_newF {e : Exit} {r' : Res} (hi : ∀ w, r'.p w (fun _ => False)) (h : QJ E Q e σ μ (r' :: φ)) : QJ E Q e σ μ φ := fun a w ha hm => h a w ha (hm.newF (hi w))
theorem LJ_newF {r' : Res} (hi : ∀ w, r'.p w (fun _ => False)) (h : LJ E Q ops rest σ μ (r' :: φ)) : LJ E Q ops rest σ μ φ := fun a w ha hm => h a w ha (hm.newF (hi w))
theorem sliceR_nil (size : Nat) (A : Option Addr) (w : World) : (sliceR size A 0 []).p w (fun _ => False) := ⟨by simp, by simp⟩
theorem sliceR_take {A : Option Addr} {n k : Nat} {xs : List Value} (hk : k ≤ n) (w : World) (S : Nat → Prop) (h : (sliceR 1 A n xs).p w S) : ∃ S', (sliceR 1 A k (xs.take k)).p w S' ∧ ∀ k, S' k → S k := by
 obtain ⟨hl, hs⟩ := h
 have hlen : (xs.take k).length = k := by simp; omega
 by_cases h0 : k = 0
 ·subst h0
  exact ⟨fun _ => False, by simpa using sliceR_nil 1 A w, fun k hk => hk.elim⟩
 ·rw [if_neg (by omega)] at hs
  obtain ⟨ad, e, hS, hc⟩ := hs
  refine ⟨S, ⟨by omega, ?_⟩, fun k hk => hk⟩
  rw [if_neg (by omega)]
  refine ⟨ad, e, hS, fun j v hj => hc j v ?_⟩
  rw [List.getElem?_take] at hj
  split at hj
  ·exact hj
  ·cases hj
theorem cellsR_slice {b n : Nat} {cs : Array Value} {t : TypeId} {size : Nat} (hn : cs.size = n * size) (w : World) (S : Nat → Prop) (h : (cellsR b cs t).p w S) : ∃ S', (sliceR size (some ⟨b, 0, none⟩) n cs.toList).p w S' ∧ ∀ k, S' k → S k := by
 obtain ⟨hb, hS⟩ := h
 by_cases h0 : cs.size = 0
 ·refine ⟨fun _ => False, ⟨by simpa using hn, ?_⟩, fun k hk => hk.elim⟩
  rw [if_pos (by simpa using h0)]
  exact fun _ h => h
 ·refine ⟨S, ⟨by simpa using hn, ?_⟩, fun k hk => hk⟩
  rw [if_neg (by simpa using h0)]
  refine ⟨_, rfl, hS, fun j v hj => ?_⟩
  rw [Addr.add_lit, cell_of_row w b (0 + j) cs t (0, 0) hb]
  simpa using hj
def RetF (v0 : Value) (φ0 : List Res) : Value → List Res → List Res → Prop := fun v μ φ => v = v0 ∧ μ = [] ∧ φ = φ0
theorem LJ_callF {x : Operand} {xs : Array Operand} {at_ : Array TypeId} {f : FuncId} {cap : Array Value} {vs vs' : List Value} {φ0 φ1 : List Res} {v0 : Value} (hg : grd ops σ g = some true) (hd : Nat.blt d E.N = true)
  (hx : oev σ x = some (.func (.func f) #[] cap)) (hxs : oevs σ xs.toList = some vs) (hv : vs ++ cap.toList = vs') (ht : Tri E.P f vs' [] φ1 (RetF v0 φ0)) (hφ : ∀ r, r ∈ φ1 → r ∈ φ)
  (h : LJ E Q ops rest ((d, v0) :: σ) μ (φ0 ++ φ)) : LJ E Q ops (⟨some d, .call { callee := .value x, args := xs, argTypes := at_ }, ty, pos, af, g⟩ :: rest) σ μ φ := by
 subst hv
 exact LJ_o hg hd (OJ_call (μr := μ) hx hxs ht (List.Perm.refl _) hφ) (by rintro _ _ _ ⟨_, _, ⟨rfl, rfl, rfl⟩, rfl, rfl⟩; exact h)
end
end Go.Proofs.Ytbanlhlggkdanaa
namespace Go.Proofs.Ytbanlhlggkdanaa
open Go.RowKit
def arrt (P : Program) (t : TypeId) : Option (Nat × TypeId × Nat) :=
 match P.underlying t with
 | some (.array n e) => (P.info? e).map fun i => (n, e, i.size)
 | _ => none
theorem run_part1 {P : Program} {t : TypeId} {cs : Array Value} {off : Nat} {v : Value} (ht : tyi P t = some (false, 1)) (h : lget cs.toList off = some v) (w : World) : (part t cs off).run P w = .ok v w := by
 rw [lget_eq, Array.getElem?_toList] at h
 simp only [part, Sem.run_bind, run_isAgg ht w, Result.andThen_ok, Bool.false_eq_true, if_false, h]
 rfl
def Iv (l : List Int) : List Value := l.map (Value.int .i64)
theorem Iv_get {l : List Int} {j k : Nat} (h : j = k) (hk : k < l.length) : lget (Iv l) j = some (.int .i64 (l.getD k 0)) := by
 subst h
 rw [lget_eq, Iv, List.getElem?_map, List.getElem?_eq_getElem hk, List.getD, List.getElem?_eq_getElem hk]
 rfl
section
variable {E : Env} {ty : TypeId} {σ : List (Nat × Value)} {μ φ : List Res}
theorem YJ_andM {xt yt : TypeId} {x y : Operand} {a m : Int} (k : Nat) (hx : oev σ x = some (.int .i64 a)) (hy : oev σ y = some (.int .i64 m)) (hk : k ≤ 62) (hm : m = ((2 ^ k - 1 : Nat) : Int)) :
  YJ E (.binOp .and xt x y yt) ty σ μ φ (.int .i64 (a % ((2 ^ k : Nat) : Int))) := fun ac w _ _ _ _ hs _ _ => by
 simp only [execOp, hs.ev hx, hs.ev hy, eqGuard_and, binOp_and]
 have hp : 2 ^ k ≤ 2 ^ 62 := Nat.pow_le_pow_right (by decide) hk
 have hp0 : 0 < 2 ^ k := Nat.two_pow_pos k
 have hdvd : 2 ^ k ∣ 2 ^ 64 := Nat.pow_dvd_pow 2 (by omega)
 have : (Op.intBits .and .i64 a m) = pure (.int .i64 (a % ((2 ^ k : Nat) : Int))) := by
  unfold Op.intBits
  show (pure (Value.int .i64 (IntKind.i64.wrap ((BitVec.ofInt 64 a &&& BitVec.ofInt 64 m : BitVec 64).toNat : Int))) : Sem Value) = _
  have e : ((BitVec.ofInt 64 a &&& BitVec.ofInt 64 m : BitVec 64).toNat : Int) = a % ((2 ^ k : Nat) : Int) := by
   rw [BitVec.toNat_and]
   have h2 : (BitVec.ofInt 64 m : BitVec 64).toNat = 2 ^ k - 1 := by
    rw [hm, BitVec.toNat_ofInt]
    generalize 2 ^ k = q at *
    omega
   rw [h2, Nat.and_two_pow_sub_one_eq_mod, BitVec.toNat_ofInt, Int.natCast_emod, Int.toNat_of_nonneg (Int.emod_nonneg _ (by decide))]
   exact Int.emod_emod_of_dvd a (Int.natCast_dvd_natCast.2 hdvd)
  rw [e, IntKind.wrap_i64]
  have h3 : 0 ≤ a % ((2 ^ k : Nat) : Int) := Int.emod_nonneg _ (by omega)
  have h4 : a % ((2 ^ k : Nat) : Int) < ((2 ^ k : Nat) : Int) := Int.emod_lt_of_pos _ (by omega)
  congr 2
  generalize a % ((2 ^ k : Nat) : Int) = r at *
  generalize 2 ^ k = q at *
  omega
 simp only [this]
 simp
theorem YJ_ixArr {xt e : TypeId} {x y : Operand} {b off n size q : Nat} {k : IntKind} {i : Int} (hx : oev σ x = some (.pointer (some ⟨b, off, none⟩))) (hy : oev σ y = some (.int k i)) (he : arrt E.P xt = some (n, e, size)) (h0 : 0 ≤ i) (h1 : i < n) (hq : off + i.toNat * size = q) :
  YJ E (.indexAddr xt x y) ty σ μ φ (.pointer (some ⟨b, q, none⟩)) := fun ac w _ _ _ _ hs _ _ => by
 subst hq
 unfold arrt at he
 cases hu : E.P.underlying xt with
 | none => rw [hu] at he; simp at he
 | some d =>
  rw [hu] at he
  cases d <;> simp at he
  rename_i n' e'
  obtain ⟨i', hi, rfl, rfl, rfl⟩ := he
  simp only [execOp, hs.ev hx, hs.ev hy]
  simp [Instr.indexAt, asIntOf, run_underlying hu, sizeOf, typeInfo, hi, h0, h1, Addr.add_lit, Instr.sureAddr]
theorem YJ_index1 {xt e : TypeId} {x y : Operand} {cs : Array Value} {n size : Nat} {k : IntKind} {i : Int} {v : Value} (hx : oev σ x = some (.agg cs)) (hy : oev σ y = some (.int k i)) (he : arrt E.P xt = some (n, e, size)) (ht : tyi E.P e = some (false, 1)) (h0 : 0 ≤ i) (h1 : i < n) (hv : lget cs.toList (i.toNat * size) = some v) :
  YJ E (.index xt x y) ty σ μ φ v := fun ac w _ _ _ _ hs _ _ => by
 unfold arrt at he
 cases hu : E.P.underlying xt with
 | none => rw [hu] at he; simp at he
 | some d =>
  rw [hu] at he
  cases d <;> simp at he
  rename_i n' e'
  obtain ⟨i', hi, rfl, rfl, rfl⟩ := he
  simp only [execOp, hs.ev hx, hs.ev hy]
  simp [Instr.index, asIntOf, run_underlying hu, sizeOf, typeInfo, hi, h0, h1, run_part1 ht hv]
end
end Go.Proofs.Ytbanlhlggkdanaa
namespace Go.Proofs.Ytbanlhlggkdanaa
open Go.RowKit
theorem wr_list : ∀ (vs : List Value) (cs : Array Value) (off : Nat), off + vs.length ≤ cs.size → (wr cs off vs).toList = cs.toList.take off ++ (vs ++ cs.toList.drop (off + vs.length))
 | [], cs, off, _ => by simp [wr]
 | v :: vs, cs, off, h => by
  simp only [List.length_cons] at h
  rw [wr, wr_list vs _ _ (by simp; omega)]
  rw [Array.toList_setIfInBounds, List.take_set, List.drop_set_of_lt (by omega), List.take_add_one, List.set_append]
  have hl : (cs.toList.take off).length = off := by simp; omega
  rw [if_neg (by omega), hl, Nat.sub_self, List.getElem?_eq_getElem (by simp; omega)]
  simp [Nat.add_comm 1, Nat.add_assoc]
theorem zip_wr : ∀ (l : List Value) (k off : Nat) (cs : Array Value), (l.zipIdx k).foldl (fun (cs : Array Value) (x : Value × Nat) => cs.setIfInBounds (off + x.2) x.1) cs = wr cs (off + k) l
 | [], _, _, _ => rfl
 | v :: l, k, off, cs => by
  rw [List.zipIdx_cons, List.foldl_cons, zip_wr l (k + 1) off]
  rfl
theorem fill_seq (size : Nat) : ∀ (vs : List Value) (k : Nat) (cs : Array Value), (∀ v ∈ vs, v.cells.size = size) → cs.size = (k + vs.length) * size →
  Instr.fill (fun i => some (i * size, size)) cs (vs.zipIdx k |>.map fun p => (p.2, p.1)) = some (cs.toList.take (k * size) ++ vs.flatMap (·.cells.toList)).toArray
 | [], k, cs, _, hc => by
  simp only [List.zipIdx_nil, List.map_nil, Instr.fill, List.flatMap_nil, List.append_nil]
  rw [List.take_of_length_le (by simp at hc; simp [hc])]
 | v :: vs, k, cs, hv, hc => by
  have h1 := hv v (.head _)
  have hs : k * size + size ≤ cs.size := by
   rw [hc, List.length_cons, ← Nat.succ_mul]
   exact Nat.mul_le_mul_right _ (by omega)
  simp only [List.zipIdx_cons, List.map_cons, Instr.fill]
  rw [if_neg (by simp only [h1, bne_self_eq_false, ne_eq, not_true_eq_false, decide_false, Bool.false_or, decide_eq_true_eq]; omega)]
  have hz : v.cells.zipIdx.foldl (fun (cs : Array Value) (x : Value × Nat) => match x with | (c, j) => cs.setIfInBounds (k * size + j) c) cs = wr cs (k * size) v.cells.toList := by
   have := zip_wr v.cells.toList 0 (k * size) cs
   rw [Nat.add_zero] at this
   rw [← this, ← Array.foldl_toList, Array.toList_zipIdx]
  rw [hz, fill_seq size vs (k + 1) _ (fun u hu => hv u (.tail _ hu)) (by rw [wr_size, hc, List.length_cons, show k + (vs.length + 1) = k + 1 + vs.length by omega])]
  rw [wr_list _ _ _ (by rw [Array.length_toList, h1]; exact hs)]
  have h2 : (k + 1) * size = k * size + v.cells.toList.length := by rw [Nat.succ_mul, Array.length_toList, h1]
  have h3 : (cs.toList.take (k * size)).length = k * size := by rw [List.length_take, Array.length_toList]; omega
  rw [h2, List.take_append, h3]
  simp only [Nat.add_sub_cancel_left, List.flatMap_cons]
  rw [List.take_of_length_le (by omega), List.take_append, List.take_of_length_le (Nat.le_refl _)]
  simp
section
variable {E : Env} {ty : TypeId} {σ : List (Nat × Value)} {μ φ : List Res}
theorem YJ_min2 {x y : Operand} {at_ : Array TypeId} {k k' : IntKind} {a b : Int} (hx : oev σ x = some (.int k a)) (hy : oev σ y = some (.int k' b)) :
  YJ E (.call { callee := .builtin .min, args := #[x, y], argTypes := at_ }) ty σ μ φ (.int k (min a b)) := fun ac w _ _ _ _ hs _ _ => by
 simp only [execOp, hs.ev hx, hs.ev hy]
 simp [resolve, invoke, builtin, hs.ev hx, hs.ev hy, run_min_int2]
 omega
theorem YJ_max2 {x y : Operand} {at_ : Array TypeId} {k k' : IntKind} {a b : Int} (hx : oev σ x = some (.int k a)) (hy : oev σ y = some (.int k' b)) :
  YJ E (.call { callee := .builtin .max, args := #[x, y], argTypes := at_ }) ty σ μ φ (.int k (max a b)) := fun ac w _ _ _ _ hs _ _ => by
 simp only [execOp, hs.ev hx, hs.ev hy]
 simp [resolve, invoke, builtin, hs.ev hx, hs.ev hy, run_max_int2]
 omega
theorem OJ_buildSliceN {t e : TypeId} {len size bytes : Nat} {z : Value} {parts : Array (Nat × Operand)} {vs : List Value} {cs : List Value} (he : elt E.P t = some (e, size, bytes)) (hz : zer E.P e = some z) (hl : len * size ≤ 16777216) (h0 : len * size ≠ 0) (hs1 : z.cells.size = size)
  (hp : oevP σ parts.toList = some (vs.zipIdx 0 |>.map fun p => (p.2, p.1))) (hlen : vs.length = len) (hv : vs.all (fun v => Nat.beq v.cells.size size) = true) (hc : vs.flatMap (·.cells.toList) = cs) :
  OJ E (.buildSlice t len parts) ty σ μ φ (fun u μ' φ' => ∃ b, u = .slice (some ⟨b, 0, none⟩) len len ∧ μ' = cellsR b cs.toArray e :: μ ∧ φ' = φ) := fun a w d pos af g K Q hs hm hK => by
 subst hc
 subst hlen
 unfold elt at he
 cases hu : E.P.underlying t with
 | none => rw [hu] at he; simp at he
 | some d' =>
  rw [hu] at he
  cases d' <;> simp at he
  rename_i e'
  obtain ⟨i, hi, rfl, hi1, rfl⟩ := he
  have hz' : (zeroValue e').run E.P w = .ok z w := run_zeroValue' hz w
  have hsz : (sizeOf e').run E.P w = .ok size w := by simp [sizeOf, typeInfo, hi, hi1]
  have hparts : (parts.map fun (p : Nat × Operand) => (p.1, a.eval p.2)).toList = (vs.zipIdx 0).map fun p => (p.2, p.1) := by
   have := hs.evP hp
   simpa using this
  have hv' : ∀ v ∈ vs, v.cells.size = size := fun v h => Nat.eq_of_beq_eq_true (List.all_eq_true.1 hv v h)
  have hfill := fill_seq size vs 0 ((Array.range (vs.length * size)).map (z.cells[· % z.cells.size]!)) hv' (by simp)
  rw [Nat.zero_mul, List.take_zero, List.nil_append] at hfill
  have : (execOp a.eval ⟨d, .buildSlice t vs.length parts, ty, pos, af, g⟩).run E.P w = .ok (.value (.slice (some ⟨w.heap.size, 0, none⟩) vs.length vs.length)) (w.alloc (.cells (vs.flatMap (·.cells.toList)).toArray e')) := by
   simp only [execOp, Instr.buildSlice, Sem.run_bind, run_underlying hu, Result.andThen_ok, hsz]
   rw [if_neg (by omega), if_neg h0]
   simp only [Sem.run_bind, hz', Result.andThen_ok, Sem.run_pure]
   rw [hparts, hfill]
   simp [newRow, newObj, Sem.run]
  unfold Oper.wp
  rw [this, Oper.upon_value]
  exact hK _ _ _ _ ⟨w.heap.size, rfl, rfl, rfl⟩ (hm.new _ _)
end
section
variable {E : Env} {ty : TypeId} {σ : List (Nat × Value)} {μ φ : List Res}
variable {Q : Qt} {ops : Array Oper} {rest : List Oper} {d : Tmp} {pos : String} {af : Array Edge} {g : Option (Nat × Bool)} {ml pl : List Res} {fuel : Nat} {listed : Array Bool}
theorem LJ_buildSliceN {t e : TypeId} {len size bytes : Nat} {z : Value} {parts : Array (Nat × Operand)} {vs : List Value} {cs : List Value} (hg : grd ops σ g = some true) (hd : Nat.blt d E.N = true) (he : elt E.P t = some (e, size, bytes)) (hz : zer E.P e = some z) (hl : len * size ≤ 16777216) (h0 : len * size ≠ 0) (hs1 : z.cells.size = size)
  (hp : oevP σ parts.toList = some (vs.zipIdx 0 |>.map fun p => (p.2, p.1))) (hlen : vs.length = len) (hv : vs.all (fun v => Nat.beq v.cells.size size) = true) (hc : vs.flatMap (·.cells.toList) = cs)
  (h : ∀ b, LJ E Q ops rest ((d, .slice (some ⟨b, 0, none⟩) len len) :: σ) (cellsR b cs.toArray e :: μ) φ) : LJ E Q ops (⟨some d, .buildSlice t len parts, ty, pos, af, g⟩ :: rest) σ μ φ :=
 LJ_o hg hd (OJ_buildSliceN he hz hl h0 hs1 hp hlen hv hc) (by rintro _ _ _ ⟨b, rfl, rfl, rfl⟩; exact h b)
end
end Go.Proofs.Ytbanlhlggkdanaa
namespace Go.Proofs.Ytbanlhlggkdanaa
open Go.RowKit
def edgeM (ops : Array Oper) (j : Nat) : Nat := match ops[j]? with
 | some o => o.after.toList.foldl (fun m e => if Region.binds .any e then m ||| 2 ^ e.on else m) 0
 | none => 0
def ancM (ops : Array Oper) (d : Nat) : Nat := (List.range d).reverse.foldl (fun m j => if m.testBit j then m ||| edgeM ops j else m) (edgeM ops d)
def waitB (ops : Array Oper) (listed : Array Bool) (ds : List Nat) (i : Nat) : Bool := ds.all fun d => listed.getD d true || (ancM ops d).testBit i
def closedB (ops : Array Oper) (listed : Array Bool) : Bool := (List.range ops.size).all fun j => !listed.getD j false || match ops[j]? with
 | some o => o.after.toList.all fun e => !Region.binds .any e || listed.getD e.on false
 | none => true
def ListedIn (ops : Array Oper) (listed : Array Bool) : Prop := ∀ j o, ops[j]? = some o → listed.getD j false = true → ∀ e ∈ o.after, Region.binds .any e = true → listed.getD e.on false = true
theorem closedB_spec {ops : Array Oper} {listed : Array Bool} (h : closedB ops listed = true) : ListedIn ops listed := fun j o hj hl e he hb => by
 have hlt : j < ops.size := (Array.getElem?_eq_some_iff.1 hj).1
 have h1 := List.all_eq_true.1 h j (List.mem_range.2 hlt)
 simp only [hl, hj, Bool.not_true, Bool.false_or] at h1
 have h2 := List.all_eq_true.1 h1 e (Array.mem_toList_iff.2 he)
 simpa [hb] using h2
theorem ListedIn.step {ops : Array Oper} {listed : Array Bool} {i : Nat} (h : ListedIn ops listed) (hi : i ∈ Region.ready .any ops listed) : ListedIn ops (listed.setIfInBounds i true) := fun j o hj hl e he hb => by
 obtain ⟨_, oi, hoi, hall⟩ := mem_ready.1 hi
 by_cases hij : i = j
 ·subst hij
  obtain rfl : o = oi := Option.some.inj (hj.symm.trans hoi)
  exact getD_set_true (hall e he hb)
 ·rw [getD_set_ne false hij] at hl
  exact getD_set_true (h j o hj hl e he hb)
def Bits (listed : Array Bool) (m : Nat) : Prop := ∀ i, m.testBit i = true → listed.getD i false = true
theorem Bits.or {listed : Array Bool} {a b : Nat} (ha : Bits listed a) (hb : Bits listed b) : Bits listed (a ||| b) := fun i h => by
 rw [Nat.testBit_or, Bool.or_eq_true] at h
 exact h.elim (ha i) (hb i)
theorem bits_edges {listed : Array Bool} : ∀ (es : List Edge) (m : Nat), (∀ e ∈ es, Region.binds .any e = true → listed.getD e.on false = true) → Bits listed m → Bits listed (es.foldl (fun m e => if Region.binds .any e then m ||| 2 ^ e.on else m) m)
 | [], _, _, h => h
 | e :: es, m, he, h => by
  refine bits_edges es _ (fun x hx => he x (.tail _ hx)) ?_
  dsimp only
  by_cases hb : Region.binds .any e = true
  ·rw [if_pos hb]
   refine h.or fun i hi => ?_
   rw [Nat.testBit_two_pow, decide_eq_true_eq] at hi
   subst hi
   exact he e (.head _) hb
  ·rw [if_neg hb]; exact h
theorem bits_edgeM {ops : Array Oper} {listed : Array Bool} {j : Nat} (h : ∀ o, ops[j]? = some o → ∀ e ∈ o.after, Region.binds .any e = true → listed.getD e.on false = true) : Bits listed (edgeM ops j) := by
 unfold edgeM
 cases hj : ops[j]? with
 | none => intro i hi; simp at hi
 | some o => exact bits_edges _ _ (fun e he hb => h o hj e (Array.mem_toList_iff.1 he) hb) (fun i hi => by simp at hi)
theorem bits_fold {ops : Array Oper} {listed : Array Bool} (hc : ListedIn ops listed) : ∀ (js : List Nat) (m : Nat), Bits listed m → Bits listed (js.foldl (fun m j => if m.testBit j then m ||| edgeM ops j else m) m)
 | [], _, h => h
 | j :: js, m, h => by
  refine bits_fold hc js _ ?_
  dsimp only
  by_cases hb : m.testBit j = true
  ·rw [if_pos hb]
   exact h.or (bits_edgeM fun o ho e he hbd => hc j o ho (h j hb) e he hbd)
  ·rw [if_neg hb]; exact h
theorem ready_anc {ops : Array Oper} {listed : Array Bool} {d i : Nat} (hc : ListedIn ops listed) (hd : d ∈ Region.ready .any ops listed) (h : (ancM ops d).testBit i = true) : listed.getD i false = true := by
 obtain ⟨_, o, ho, hall⟩ := mem_ready.1 hd
 refine bits_fold hc _ _ (bits_edgeM fun o' ho' e he hb => ?_) i h
 obtain rfl : o' = o := Option.some.inj (ho'.symm.trans ho)
 exact hall e he hb
abbrev Inv := (World → Prop) × List Nat
def wpAnyM (P : Program) (ops : Array Oper) (Q : Exit → Act → World → Prop) (M : List Inv) : Nat → Array Bool → Act → World → Prop
 | 0, listed, a, w => Region.ready .any ops listed = [] ∧ Q .normal a w
 | fuel + 1, listed, a, w => (Region.ready .any ops listed = [] → Q .normal a w) ∧
  ∀ i ∈ Region.ready .any ops listed, wpOp P ops Q i (fun a' w' => (∀ p ∈ M, i ∉ p.2 → p.1 w → p.1 w') ∧ wpAnyM P ops Q M fuel (listed.setIfInBounds i true) a' w') a w
theorem wpAny_of_M {P : Program} {ops : Array Oper} {Q : Exit → Act → World → Prop} {M : List Inv} : ∀ (fuel : Nat) (listed : Array Bool) (a : Act) (w : World), wpAnyM P ops Q M fuel listed a w → wpAny P .any ops Q fuel listed a w
 | 0, _, _, _, h => h
 | fuel + 1, _, _, _, h => ⟨h.1, fun i hi => wpOp_mono (fun a' w' h' => wpAny_of_M fuel _ a' w' h'.2) (h.2 i hi)⟩
theorem wpAnyM_first {P : Program} {ops : Array Oper} {Q : Exit → Act → World → Prop} {M : List Inv} {i : Nat} {oi : Oper} {v : Value} (L : List Inv) (hL : ∀ p ∈ L, p ∈ M) (hi : ops[i]? = some oi) (hsel : ∀ (j : Nat) (o : Oper) cs b, ops[j]? = some o → o.op ≠ .select cs b)
  (hQ : ∀ c a w, Q (.panic c) (a.put oi.dst v) w → Q (.panic c) a w) : ∀ (fuel : Nat) (listed : Array Bool) (a : Act) (w : World),
   (∀ j oj, ops[j]? = some oj → j ≠ i → listed.getD j true = false → (∀ e ∈ oj.after, Region.binds .any e = true → e.on ≠ i) → oi.apart ops oj = true) →
   ListedIn ops listed → (∀ p ∈ L, ∀ d ∈ p.2, listed.getD d true = false → (ancM ops d).testBit i = true) →
   i ∈ Region.ready .any ops listed → YieldsIf P ops (fun w => ∀ p ∈ L, p.1 w) oi v a → (∀ p ∈ L, p.1 w) →
   wpAnyM P ops Q M fuel (listed.setIfInBounds i true) (a.put oi.dst v) w → wpAnyM P ops Q M (fuel + 1) listed a w := by
 intro fuel
 induction fuel with
 | zero =>
  intro listed a w _ _ _ hr hy hS H
  refine ⟨fun h => (by rw [h] at hr; cases hr), fun j hj => ?_⟩
  by_cases hji : j = i
  ·subst hji; exact hy.wpOp hi hS ⟨fun _ _ _ h => h, H⟩
  ·have := ready_mono hj hji
   rw [H.1] at this
   cases this
 | succ fuel ih =>
  intro listed a w hfree hc hd hr hy hS H
  refine ⟨fun h => (by rw [h] at hr; cases hr), fun j hj => ?_⟩
  by_cases hji : j = i
  ·subst hji; exact hy.wpOp hi hS ⟨fun _ _ _ h => h, H⟩
  ·have h1 := H.2 j (ready_mono hj hji)
   obtain ⟨hjun, oj, hoj, hall⟩ := mem_ready.1 hj
   have hiun := (mem_ready.1 hr).1
   have hno : ¬ listed.getD i false = true := fun h1 => by
    rcases Nat.lt_or_ge i listed.size with h' | h'
    ·simp [h'] at hiun h1; rw [hiun] at h1; cases h1
    ·simp [Array.getElem?_eq_none h'] at h1
   have hnot : ∀ e ∈ oj.after, Region.binds .any e = true → e.on ≠ i := fun e he hb heq => by
    have h1 := hall e he hb
    rw [heq] at h1
    exact hno h1
   have hjd : ∀ p ∈ L, j ∉ p.2 := fun p hp hm => hno (ready_anc hc hj (hd p hp j hm hjun))
   have h2 := wpOp_putIf hoj (hfree j oj hoj hji hjun hnot) (fun cs b => hsel i oi cs b hi) (fun cs b => hsel j oj cs b hoj) hQ hy h1
   have hun' : ∀ k, (listed.setIfInBounds j true).getD k true = false → listed.getD k true = false := fun k hun => by
    by_cases hjk : j = k
    ·subst hjk; exact hjun
    ·rw [getD_set_ne true hjk] at hun; exact hun
   refine wpOp_mono (fun a' w' h3 => ⟨h3.2.1, ih (listed.setIfInBounds j true) a' w' (fun k ok hk hki hun hno => hfree k ok hk hki (hun' k hun) hno) (hc.step hj) (fun p hp d hm hun => hd p hp d hm (hun' d hun)) (ready_mono hr (Ne.symm hji)) h3.1 (fun p hp => h3.2.1 p (hL p hp) (hjd p hp) (hS p hp)) ?_⟩) h2
   rw [Array.setIfInBounds_comm _ _ hji]
   exact h3.2.2
section
variable {E : Env} {Q : Qt} {ops : Array Oper} {pl : List Res} {M : List (Res × List Nat)} {fuel : Nat} {listed : Array Bool} {σ : List (Nat × Value)} {μ φ : List Res}
def invs (M : List (Res × List Nat)) (pl : List Res) : List Inv := ((fun w => Hold w pl), []) :: M.map fun p => ((fun w => Hold w [p.1]), p.2)
def BJ (E : Env) (Q : Qt) (ops : Array Oper) (M : List (Res × List Nat)) (pl : List Res) (fuel : Nat) (listed : Array Bool) (σ : List (Nat × Value)) (μ φ : List Res) : Prop :=
 Region.noSelect ops = true → (∀ c a w d v, Q (.panic c) (a.put (some d) v) w → Q (.panic c) a w) → (∀ r, r ∈ pl → r ∈ φ) → ∀ a w, OKa E σ a → OKm E μ φ w → wpAnyM E.P ops Q (invs M pl) fuel listed a w
theorem CJ_regB {id : Nat} (hmix : E.P.follows .mixedOrders = true) (hs : Region.noSelect ops = true) (hQ : ∀ c a w d v, Q (.panic c) (a.put (some d) v) w → Q (.panic c) a w) (M : List (Res × List Nat)) (pl : List Res) (hpl : ∀ r, r ∈ pl → r ∈ φ)
  (h : BJ E Q ops M pl ops.size (Array.replicate ops.size false) σ μ φ) : CJ E Q (.region id ops true) σ μ φ := fun a w ha hm =>
 wp_region_any hmix (wpAny_of_M _ _ _ _ (h hs hQ hpl a w.drew ha hm.drew))
theorem BJ_y (i : Nat) {d : Tmp} {op : Op} {ty : TypeId} {pos : String} {af : Array Edge} {g : Option (Nat × Bool)} {v : Value} (hi : ops[i]? = some ⟨some d, op, ty, pos, af, g⟩)
  (hf : Region.free .any ops listed i = true) (hr : (Region.ready .any ops listed).contains i = true) (hc : closedB ops listed = true)
  (hg : grd ops σ g = some true) (hd : Nat.blt d E.N = true) (hy : YJ E op ty σ [] pl v)
  (h : BJ E Q ops M pl fuel (listed.setIfInBounds i true) ((d, v) :: σ) μ φ) : BJ E Q ops M pl (fuel + 1) listed σ μ φ := fun hs hQ hp a w ha hmem =>
 wpAnyM_first [((fun w => Hold w pl), [])] (fun p hp => by rcases List.mem_singleton.1 hp with rfl; exact .head _) hi (Region.noSelect_spec hs) (fun c a w => hQ c a w _ _) fuel listed a w (Region.free_spec hi hf) (closedB_spec hc)
  (fun p hp d hd => by rcases List.mem_singleton.1 hp with rfl; cases hd) (by simpa using hr) (.inl ⟨grd_wanted (o := ⟨some d, op, ty, pos, af, g⟩) ha hg, fun w' hw' => hy a w' _ _ _ _ ha.slots (fun r hr => nomatch hr) (hw' _ (.head _))⟩)
  (fun p hp' => by rcases List.mem_singleton.1 hp' with rfl; exact hmem.hold.2.sub hp) (h hs hQ hp _ _ (ha.put hd v) hmem)
theorem BJ_l (i k : Nat) {d : Tmp} {op : Op} {ty : TypeId} {pos : String} {af : Array Edge} {g : Option (Nat × Bool)} {v : Value} {u : Res} {ds : List Nat} (hi : ops[i]? = some ⟨some d, op, ty, pos, af, g⟩)
  (hf : Region.free .any ops listed i = true) (hr : (Region.ready .any ops listed).contains i = true) (hc : closedB ops listed = true)
  (hk : M[k]? = some (u, ds)) (hw : waitB ops listed ds i = true) (hu : u ∈ μ)
  (hg : grd ops σ g = some true) (hd : Nat.blt d E.N = true) (hy : YJ E op ty σ [u] pl v)
  (h : BJ E Q ops M pl fuel (listed.setIfInBounds i true) ((d, v) :: σ) μ φ) : BJ E Q ops M pl (fuel + 1) listed σ μ φ := fun hs hQ hp a w ha hmem =>
 wpAnyM_first [((fun w => Hold w pl), []), ((fun w => Hold w [u]), ds)] (fun p hp => by
   rcases List.mem_cons.1 hp with rfl | hp
   ·exact .head _
   ·rcases List.mem_singleton.1 hp with rfl
    exact .tail _ (List.mem_map.2 ⟨(u, ds), List.mem_of_getElem? hk, rfl⟩)) hi (Region.noSelect_spec hs) (fun c a w => hQ c a w _ _) fuel listed a w (Region.free_spec hi hf) (closedB_spec hc)
  (fun p hp d hd hun => by
   rcases List.mem_cons.1 hp with rfl | hp
   ·cases hd
   ·rcases List.mem_singleton.1 hp with rfl
    have := List.all_eq_true.1 hw d hd
    rw [hun] at this
    simpa using this) (by simpa using hr) (.inl ⟨grd_wanted (o := ⟨some d, op, ty, pos, af, g⟩) ha hg, fun w' hw' => hy a w' _ _ _ _ ha.slots (hw' _ (.tail _ (.head _))) (hw' _ (.head _))⟩)
  (fun p hp' => by
   rcases List.mem_cons.1 hp' with rfl | hp'
   ·exact hmem.hold.2.sub hp
   ·rcases List.mem_singleton.1 hp' with rfl
    exact hmem.hold.1.sub (fun r hr => by rcases List.mem_singleton.1 hr with rfl; exact hu)) (h hs hQ hp _ _ (ha.put hd v) hmem)
def AllM (i : Nat) (μ : List Res) : List (Res × List Nat) → Prop
 | [] => True
 | p :: M => (p.2.contains i = true ∨ p.1 ∈ μ) ∧ AllM i μ M
theorem AllM.spec {i : Nat} {μ : List Res} : ∀ {M : List (Res × List Nat)}, AllM i μ M → ∀ p ∈ M, i ∉ p.2 → p.1 ∈ μ
 | _ :: _, h, _, .head _, hn => h.1.elim (fun hc => absurd (by simpa using hc) hn) id
 | _ :: _, h, _, .tail _ hm, hn => AllM.spec h.2 _ hm hn
theorem AllM.invs {E : Env} {i : Nat} {M : List (Res × List Nat)} {pl μ φ : List Res} {w w' : World} (h : AllM i μ M) (hm : OKm E μ φ w') (hp : ∀ r, r ∈ pl → r ∈ φ) : ∀ p ∈ Go.Proofs.Ytbanlhlggkdanaa.invs M pl, i ∉ p.2 → p.1 w → p.1 w' := fun p hp' hn _ => by
 rcases List.mem_cons.1 hp' with rfl | hp'
 ·exact hm.hold.2.sub hp
 ·obtain ⟨q, hq, rfl⟩ := List.mem_map.1 hp'
  exact hm.hold.1.sub (fun r hr => by rcases List.mem_singleton.1 hr with rfl; exact h.spec q hq hn)
theorem BJ_o (i : Nat) {d : Tmp} {op : Op} {ty : TypeId} {pos : String} {af : Array Edge} {g : Option (Nat × Bool)} {X : Value → List Res → List Res → Prop} (hi : ops[i]? = some ⟨some d, op, ty, pos, af, g⟩)
  (hr : Region.ready .any ops listed = [i]) (hg : grd ops σ g = some true) (hd : Nat.blt d E.N = true) (ho : OJ E op ty σ μ φ X)
  (h : ∀ v μ' φ', X v μ' φ' → AllM i μ' M ∧ (∀ r, r ∈ pl → r ∈ φ → r ∈ φ') ∧ BJ E Q ops M pl fuel (listed.setIfInBounds i true) ((d, v) :: σ) μ' φ') : BJ E Q ops M pl (fuel + 1) listed σ μ φ := fun hs hQ hp a w ha hmem => by
 refine ⟨fun h0 => (by rw [hr] at h0; cases h0), ?_⟩
 ·intro j hj
  have hji : j = i := by rw [hr] at hj; simpa using hj
  subst hji
  unfold wpOp
  rw [hi]
  dsimp only
  rw [if_pos (grd_wanted (o := ⟨some d, op, ty, pos, af, g⟩) ha hg)]
  refine .inl (ho a w _ _ _ _ _ _ ha.slots hmem fun v μ' φ' w' hx hm' => ?_)
  obtain ⟨k1, k2, k3⟩ := h v μ' φ' hx
  have e2 : ∀ r, r ∈ pl → r ∈ φ' := fun r hr => k2 r hr (hp r hr)
  exact ⟨k1.invs hm' e2, k3 hs hQ e2 _ _ (ha.put hd v) hm'⟩
theorem BJ_o0 (i : Nat) {op : Op} {ty : TypeId} {pos : String} {af : Array Edge} {g : Option (Nat × Bool)} {X : Value → List Res → List Res → Prop} (hi : ops[i]? = some ⟨none, op, ty, pos, af, g⟩)
  (hr : Region.ready .any ops listed = [i]) (hg : grd ops σ g = some true) (ho : OJ E op ty σ μ φ X)
  (h : ∀ v μ' φ', X v μ' φ' → AllM i μ' M ∧ (∀ r, r ∈ pl → r ∈ φ → r ∈ φ') ∧ BJ E Q ops M pl fuel (listed.setIfInBounds i true) σ μ' φ') : BJ E Q ops M pl (fuel + 1) listed σ μ φ := fun hs hQ hp a w ha hmem => by
 refine ⟨fun h0 => (by rw [hr] at h0; cases h0), ?_⟩
 ·intro j hj
  have hji : j = i := by rw [hr] at hj; simpa using hj
  subst hji
  unfold wpOp
  rw [hi]
  dsimp only
  rw [if_pos (grd_wanted (o := ⟨none, op, ty, pos, af, g⟩) ha hg)]
  refine .inl (ho a w _ _ _ _ _ _ ha.slots hmem fun v μ' φ' w' hx hm' => ?_)
  obtain ⟨k1, k2, k3⟩ := h v μ' φ' hx
  have e2 : ∀ r, r ∈ pl → r ∈ φ' := fun r hr => k2 r hr (hp r hr)
  exact ⟨k1.invs hm' e2, k3 hs hQ e2 _ _ ha hm'⟩
theorem BJ_done (hr : Region.ready .any ops listed = []) (h : QJ E Q .normal σ μ φ) : BJ E Q ops M pl fuel listed σ μ φ := fun _ _ _ a w ha hm => by
 cases fuel with
 | zero => exact ⟨hr, h a w ha hm⟩
 | succ n => exact ⟨fun _ => h a w ha hm, by rw [hr]; simp⟩
theorem BJ_val {d : Nat} {u v : Value} (hv : u = v) (h : BJ E Q ops M pl fuel listed ((d, v) :: σ) μ φ) : BJ E Q ops M pl fuel listed ((d, u) :: σ) μ φ := by subst hv; exact h
variable {d : Tmp} {ty : TypeId} {pos : String} {af : Array Edge} {g : Option (Nat × Bool)}
theorem BJ_store {t t' : TypeId} {x y : Operand} {b off n : Nat} {v : Value} {ag : Bool} {cs cs' : Array Value} {μ' : List Res} (i k : Nat) (hi : ops[i]? = some ⟨none, .store t x y, ty, pos, af, g⟩)
  (hr : Region.ready .any ops listed = [i]) (hg : grd ops σ g = some true) (hk : μ[k]? = some (cellsR b cs t')) (hx : oev σ x = some (.pointer (some ⟨b, off, none⟩))) (hy : oev σ y = some v)
  (ht : tyi E.P t = some (ag, n)) (hn : v.cells.size = n) (hb : off + n ≤ cs.size) (h1 : v.cells.toList.all (·.oneCell') = true) (hw : wr cs off v.cells.toList = cs') (hμ' : μ.set k (cellsR b cs' t') = μ')
  (hM : AllM i μ' M) (h : BJ E Q ops M pl fuel (listed.setIfInBounds i true) σ μ' φ) : BJ E Q ops M pl (fuel + 1) listed σ μ φ :=
 BJ_o0 i hi hr hg (OJ_storeK k hk hx hy ht hn hb h1 hw hμ') (by rintro _ _ _ ⟨rfl, rfl⟩; exact ⟨hM, fun _ _ h => h, h⟩)
theorem BJ_call0 {x : Operand} {xs : Array Operand} {at_ : Array TypeId} {f : FuncId} {cap : Array Value} {vs vs' : List Value} {φ1 : List Res} {v0 : Value} (i : Nat) (hi : ops[i]? = some ⟨some d, .call { callee := .value x, args := xs, argTypes := at_ }, ty, pos, af, g⟩)
  (hr : Region.ready .any ops listed = [i]) (hg : grd ops σ g = some true) (hd : Nat.blt d E.N = true)
  (hx : oev σ x = some (.func (.func f) #[] cap)) (hxs : oevs σ xs.toList = some vs) (hv : vs ++ cap.toList = vs') (hM : AllM i μ M) (ht : Tri E.P f vs' [] φ1 (Ret0 v0)) (hφ : ∀ r, r ∈ φ1 → r ∈ φ)
  (h : BJ E Q ops M pl fuel (listed.setIfInBounds i true) ((d, v0) :: σ) μ φ) : BJ E Q ops M pl (fuel + 1) listed σ μ φ := by
 subst hv
 exact BJ_o i hi hr hg hd (OJ_call (μr := μ) hx hxs ht (List.Perm.refl _) hφ) (by rintro _ _ _ ⟨_, _, ⟨rfl, rfl, rfl⟩, rfl, rfl⟩; exact ⟨hM, fun _ _ h => h, h⟩)
def mkM : List (List Nat) → List Res → List (Res × List Nat)
 | ds :: dss, r :: μ => (r, ds) :: mkM dss μ
 | _, _ => []
theorem CJ_regM {id : Nat} (hmix : E.P.follows .mixedOrders = true) (hs : Region.noSelect ops = true) (hQ : ∀ c a w d v, Q (.panic c) (a.put (some d) v) w → Q (.panic c) a w) (dss : List (List Nat))
  (h : BJ E Q ops (mkM dss μ) φ ops.size (Array.replicate ops.size false) σ μ φ) : CJ E Q (.region id ops true) σ μ φ := CJ_regB hmix hs hQ _ _ (fun _ h => h) h
end
end Go.Proofs.Ytbanlhlggkdanaa
namespace Go.Proofs.Ytbanlhlggkdanaa
open Go.RowKit
structure Al where
  i : Nat
  d : Tmp
  t : TypeId
  cs : Array Value
def lsB : List Al → List Bool → Array Bool → Array Bool
  | a :: A, b :: bs, L => lsB A bs (bif b then L.setIfInBounds a.i true else L)
  | _, _, L => L
def pendB : List Al → List Bool → List Nat
  | a :: A, b :: bs => bif b then pendB A bs else a.i :: pendB A bs
  | _, _ => []
def σA : List Al → List (Option Nat) → List (Nat × Value)
  | a :: A, some b :: st => (a.d, .pointer (some ⟨b, 0, none⟩)) :: σA A st
  | _ :: A, none :: st => σA A st
  | _, _ => []
def μA : List Al → List (Option Nat) → List Res
  | a :: A, some b :: st => cellsR b a.cs a.t :: μA A st
  | _ :: A, none :: st => μA A st
  | _, _ => []
def bts (st : List (Option Nat)) : List Bool := st.map (·.isSome)
def pend : List (Option Nat) → Nat
  | [] => 0
  | some _ :: st => pend st
  | none :: st => pend st + 1
def allBits : Nat → (List Bool → Bool) → Bool
  | 0, f => f []
  | n + 1, f => allBits n (fun bs => f (true :: bs)) && allBits n (fun bs => f (false :: bs))
theorem allBits_spec : ∀ (n : Nat) (f : List Bool → Bool), allBits n f = true → ∀ bs, bs.length = n → f bs = true
  | 0, f, h, bs, hb => by
    have : bs = [] := List.eq_nil_of_length_eq_zero hb
    subst this; exact h
  | n + 1, f, h, b :: bs, hb => by
    simp only [allBits, Bool.and_eq_true] at h
    have hb' : bs.length = n := by simpa using hb
    cases b
    · exact allBits_spec n _ h.2 bs hb'
    · exact allBits_spec n _ h.1 bs hb'
def AlOk (P : Program) (ops : Array Oper) : List Al → Prop
  | [] => True
  | a :: A => (∃ v ty pos af, ops[a.i]? = some ⟨some a.d, .alloc a.t, ty, pos, af, none⟩ ∧ zer P a.t = some v ∧ v.cells = a.cs) ∧ AlOk P ops A
def dsts (A : List Al) : List Nat := A.map (·.d)
def nodupB : List Nat → Bool
  | [] => true
  | d :: ds => !(ds.contains d) && nodupB ds
section
variable {E : Env} {Q : Qt} {ops : Array Oper} {ml pl : List Res}
theorem lsB_set (A : List Al) : ∀ (bs : List Bool) (L : Array Bool) (i : Nat), lsB A bs (L.setIfInBounds i true) = (lsB A bs L).setIfInBounds i true := by
  induction A with
  | nil => intro bs L i; rfl
  | cons a A ih =>
    intro bs L i
    cases bs with
    | nil => rfl
    | cons b bs =>
      cases b
      · exact ih bs L i
      · show lsB A bs ((L.setIfInBounds i true).setIfInBounds a.i true) = (lsB A bs (L.setIfInBounds a.i true)).setIfInBounds i true
        by_cases e : i = a.i
        · subst e; rw [ih, ih]
        · rw [Array.setIfInBounds_comm _ _ e]; exact ih bs _ i
theorem pend_at {P : Program} : ∀ (A : List Al) (st : List (Option Nat)) (j : Nat), st.length = A.length → AlOk P ops A → j ∈ pendB A (bts st) →
    ∃ (k : Nat) (al : Al), A[k]? = some al ∧ st[k]? = some none ∧ al.i = j ∧ ∃ v ty pos af, ops[j]? = some ⟨some al.d, .alloc al.t, ty, pos, af, none⟩ ∧ zer P al.t = some v ∧ v.cells = al.cs
  | [], st, j, _, _, h => by cases st <;> simp [pendB, bts] at h
  | a :: A, s :: st, j, hl, hok, h => by
    cases s with
    | some b =>
      have h' : j ∈ pendB A (bts st) := h
      obtain ⟨k, al, h1, h2, h3⟩ := pend_at A st j (by simpa using hl) hok.2 h'
      exact ⟨k + 1, al, by simpa using h1, by simpa using h2, h3⟩
    | none =>
      have h' : j ∈ a.i :: pendB A (bts st) := h
      rcases List.mem_cons.1 h' with rfl | h'
      · exact ⟨0, a, rfl, rfl, rfl, hok.1⟩
      · obtain ⟨k, al, h1, h2, h3⟩ := pend_at A st j (by simpa using hl) hok.2 h'
        exact ⟨k + 1, al, by simpa using h1, by simpa using h2, h3⟩
theorem lsB_make : ∀ (A : List Al) (st : List (Option Nat)) (k : Nat) (al : Al) (b : Nat) (L : Array Bool), A[k]? = some al → st[k]? = some none →
    lsB A (bts (st.set k (some b))) L = (lsB A (bts st) L).setIfInBounds al.i true
  | [], st, k, al, b, L, h, _ => by simp at h
  | a :: A, [], k, al, b, L, _, h => by simp at h
  | a :: A, s :: st, 0, al, b, L, h, h' => by
    simp only [List.getElem?_cons_zero, Option.some.injEq] at h h'
    subst h; subst h'
    exact lsB_set A (bts st) L a.i
  | a :: A, s :: st, k + 1, al, b, L, h, h' => by
    simp only [List.getElem?_cons_succ] at h h'
    exact lsB_make A st k al b _ h h'
theorem μA_make : ∀ (A : List Al) (st : List (Option Nat)) (k : Nat) (al : Al) (b : Nat), A[k]? = some al → st[k]? = some none →
    List.Perm (cellsR b al.cs al.t :: μA A st) (μA A (st.set k (some b)))
  | [], st, k, al, b, h, _ => by simp at h
  | a :: A, [], k, al, b, _, h => by simp at h
  | a :: A, s :: st, 0, al, b, h, h' => by
    simp only [List.getElem?_cons_zero, Option.some.injEq] at h h'
    subst h; subst h'
    exact List.Perm.refl _
  | a :: A, s :: st, k + 1, al, b, h, h' => by
    simp only [List.getElem?_cons_succ] at h h'
    have ih := μA_make A st k al b h h'
    cases s with
    | none => exact ih
    | some c => exact (List.Perm.swap _ _ _).trans (ih.cons _)
theorem σA_make : ∀ (A : List Al) (st : List (Option Nat)) (k : Nat) (al : Al) (b : Nat) (a : Act), A[k]? = some al → st[k]? = some none → nodupB (dsts A) = true → (∀ x ∈ A, x.d < a.tmps.size) →
    Slots (σA A st) a → Slots (σA A (st.set k (some b))) (a.put (some al.d) (.pointer (some ⟨b, 0, none⟩)))
  | A, st, k, al, b, a, h, h', hn, hd, hs => by
    have hal : al ∈ A := List.mem_of_getElem? h
    have key : ∀ t v, lk t (σA A (st.set k (some b))) = some v → (t = al.d ∧ v = .pointer (some ⟨b, 0, none⟩)) ∨ (t ≠ al.d ∧ lk t (σA A st) = some v) := by
      clear hs hd
      induction A generalizing st k with
      | nil => simp at h
      | cons x A ih =>
        cases st with
        | nil => simp at h'
        | cons s st =>
          simp only [dsts, List.map_cons, nodupB, Bool.and_eq_true, Bool.not_eq_true'] at hn
          cases k with
          | zero =>
            simp only [List.getElem?_cons_zero, Option.some.injEq] at h h'
            subst h; subst h'
            intro t v hv
            have hv' : lk t ((x.d, .pointer (some ⟨b, 0, none⟩)) :: σA A st) = some v := hv
            simp only [lk] at hv'
            cases hb : Nat.beq t x.d with
            | true =>
              rw [hb] at hv'
              simp only [cond_true, Option.some.injEq] at hv'
              exact .inl ⟨Nat.eq_of_beq_eq_true hb, hv'.symm⟩
            | false =>
              rw [hb] at hv'
              simp only [cond_false] at hv'
              refine .inr ⟨fun e => ?_, hv'⟩
              subst e
              rw [Nat.beq_refl] at hb
              cases hb
          | succ k =>
            simp only [List.getElem?_cons_succ] at h h'
            have hal' : al ∈ A := List.mem_of_getElem? h
            have hne : x.d ≠ al.d := fun e => by
              have h1 : (List.map (·.d) A).contains x.d = true := by
                rw [List.contains_iff_mem, e]
                exact List.mem_map.2 ⟨al, hal', rfl⟩
              rw [h1] at hn
              exact absurd hn.1 (by simp)
            have ih' := ih st k h h' hn.2 hal'
            cases s with
            | none => exact ih'
            | some c =>
              intro t v hv
              have hv' : lk t ((x.d, .pointer (some ⟨c, 0, none⟩)) :: σA A (st.set k (some b))) = some v := hv
              simp only [lk] at hv'
              cases hb : Nat.beq t x.d with
              | true =>
                rw [hb] at hv'
                simp only [cond_true, Option.some.injEq] at hv'
                have e := Nat.eq_of_beq_eq_true hb
                refine .inr ⟨fun e' => hne (e ▸ e'), ?_⟩
                show lk t ((x.d, .pointer (some ⟨c, 0, none⟩)) :: σA A st) = some v
                simp only [lk, hb, cond_true, hv']
              | false =>
                rw [hb] at hv'
                simp only [cond_false] at hv'
                rcases ih' t v hv' with h1 | ⟨h1, h2⟩
                · exact .inl h1
                · refine .inr ⟨h1, ?_⟩
                  show lk t ((x.d, .pointer (some ⟨c, 0, none⟩)) :: σA A st) = some v
                  simp only [lk, hb, cond_false, h2]
    intro t v hv
    rcases key t v hv with ⟨rfl, rfl⟩ | ⟨h1, h2⟩
    · simp [Act.put, hd al hal]
    · have := hs t v h2
      simp only [Act.put]
      rw [Array.getElem?_setIfInBounds_ne (Ne.symm h1)]
      exact this
theorem pend_set : ∀ (st : List (Option Nat)) (k b : Nat), st[k]? = some none → pend st = pend (st.set k (some b)) + 1
  | [], k, b, h => by simp at h
  | s :: st, 0, b, h => by
    simp only [List.getElem?_cons_zero, Option.some.injEq] at h
    subst h; rfl
  | s :: st, k + 1, b, h => by
    simp only [List.getElem?_cons_succ] at h
    have ih := pend_set st k b h
    cases s with
    | none => simp only [List.set_cons_succ, pend]; omega
    | some c => simp only [List.set_cons_succ, pend]; omega
def AA (E : Env) (Q : Qt) (ops : Array Oper) (ml pl : List Res) (A : List Al) (fuel : Nat) (L : Array Bool) (σ : List (Nat × Value)) (μ φ : List Res) : Prop :=
  AlOk E.P ops A → nodupB (dsts A) = true → A.all (fun x => Nat.blt x.d E.N) = true → Region.noSelect ops = true → (∀ c a w d v, Q (.panic c) (a.put (some d) v) w → Q (.panic c) a w) → (∀ r, r ∈ ml → r ∈ μ) → (∀ r, r ∈ pl → r ∈ φ) →
  ∀ st, st.length = A.length → ∀ a w, OKa E σ a → Slots (σA A st) a → OKm E (μA A st ++ μ) φ w →
    wpAnyH E.P .any ops Q (fun w => Hold w ml ∧ Hold w pl) (fuel + pend st) (lsB A (bts st) L) a w
theorem lk_none_ne {σ : List (Nat × Value)} {d t : Nat} {v : Value} (h : lk d σ = none) (hv : lk t σ = some v) : t ≠ d := fun e => by
  subst e; rw [h] at hv; cases hv
def Frs (σ : List (Nat × Value)) : List Al → Bool
  | [] => true
  | a :: A => (lk a.d σ).isNone && Frs σ A
theorem Frs.ne {σ : List (Nat × Value)} : ∀ {A : List Al}, Frs σ A = true → ∀ al ∈ A, lk al.d σ = none
  | a :: A, h, al, hal => by
    simp only [Frs, Bool.and_eq_true] at h
    rcases List.mem_cons.1 hal with rfl | hal
    · exact Option.isNone_iff_eq_none.1 h.1
    · exact Frs.ne h.2 al hal
theorem σA_keys : ∀ {A : List Al} {st : List (Option Nat)} {t : Nat} {v : Value}, lk t (σA A st) = some v → ∃ al ∈ A, al.d = t
  | [], st, t, v, h => by cases st <;> simp [σA, lk] at h
  | a :: A, [], t, v, h => by simp [σA, lk] at h
  | a :: A, none :: st, t, v, h => by
    obtain ⟨al, h1, h2⟩ := σA_keys (A := A) (st := st) h
    exact ⟨al, .tail _ h1, h2⟩
  | a :: A, some b :: st, t, v, h => by
    have h' : lk t ((a.d, .pointer (some ⟨b, 0, none⟩)) :: σA A st) = some v := h
    simp only [lk] at h'
    cases hb : Nat.beq t a.d with
    | true => exact ⟨a, .head _, (Nat.eq_of_beq_eq_true hb).symm⟩
    | false =>
      rw [hb] at h'
      simp only [cond_false] at h'
      obtain ⟨al, h1, h2⟩ := σA_keys h'
      exact ⟨al, .tail _ h1, h2⟩
theorem Slots.putA {A : List Al} {st : List (Option Nat)} {a : Act} (h : Slots (σA A st) a) {d : Nat} (hd : (dsts A).contains d = false) (v : Value) : Slots (σA A st) (a.put (some d) v) := fun t u hu => by
  have := h t u hu
  obtain ⟨al, h1, h2⟩ := σA_keys hu
  have hne : t ≠ d := fun e => by
    subst e
    have : (dsts A).contains t = true := by rw [List.contains_iff_mem, ← h2]; exact List.mem_map.2 ⟨al, h1, rfl⟩
    rw [this] at hd; cases hd
  simp only [Act.put]
  rw [Array.getElem?_setIfInBounds_ne (Ne.symm hne)]
  exact this
variable {A : List Al} {fuel : Nat} {L : Array Bool} {σ : List (Nat × Value)} {μ φ : List Res}
theorem AA_alloc (hok : AlOk E.P ops A) (hnd : nodupB (dsts A) = true) (hfr : Frs σ A = true) (hsz : A.all (fun x => Nat.blt x.d E.N) = true)
    (hml : ∀ r, r ∈ ml → r ∈ μ) (hpl : ∀ r, r ∈ pl → r ∈ φ) {st : List (Option Nat)} (hst : st.length = A.length) {j : Nat} (hj : j ∈ pendB A (bts st)) {n : Nat} {a : Act} {w : World} (ha : OKa E σ a) (hs : Slots (σA A st) a) (hm : OKm E (μA A st ++ μ) φ w)
    (hrec : ∀ st', st'.length = A.length → pend st = pend st' + 1 → ∀ a w, OKa E σ a → Slots (σA A st') a → OKm E (μA A st' ++ μ) φ w → lsB A (bts st') L = (lsB A (bts st) L).setIfInBounds j true → wpAnyH E.P .any ops Q (fun w => Hold w ml ∧ Hold w pl) n (lsB A (bts st') L) a w) :
    wpOp E.P ops Q j (fun a' w' => (Hold w' ml ∧ Hold w' pl) ∧ wpAnyH E.P .any ops Q (fun w => Hold w ml ∧ Hold w pl) n ((lsB A (bts st) L).setIfInBounds j true) a' w') a w := by
  obtain ⟨k, al, h1, h2, rfl, v, ty, pos, af, h3, h4, h5⟩ := pend_at (P := E.P) (ops := ops) A st j hst hok hj
  have hal : al ∈ A := List.mem_of_getElem? h1
  unfold wpOp
  rw [h3]
  dsimp only
  rw [if_pos (by simp [Region.wanted])]
  refine .inl (OJ_alloc (σ := σ) h4 a w _ _ _ _ _ _ ha.slots hm ?_)
  rintro _ μ'' φ'' w' ⟨b, rfl, hμ, hφ⟩ hm'
  rw [hμ, hφ] at hm'
  have hd : al.d < a.tmps.size := by
    rw [ha.siz]
    exact Nat.le_of_ble_eq_true (List.all_eq_true.1 hsz al hal)
  have hperm : List.Perm (cellsR b v.cells al.t :: (μA A st ++ μ)) (μA A (st.set k (some b)) ++ μ) := by
    rw [h5]
    exact (μA_make A st k al b h1 h2).append_right μ
  have hm2 : OKm E (μA A (st.set k (some b)) ++ μ) φ w' := hm'.weak (μr := []) (by simpa using hperm) (fun _ h => h)
  have hin : ∀ r, r ∈ ml → r ∈ μA A (st.set k (some b)) ++ μ := fun r hr => List.mem_append_right _ (hml r hr)
  have hls := lsB_make A st k al b L h1 h2
  refine ⟨⟨hm2.hold.1.sub hin, hm2.hold.2.sub hpl⟩, ?_⟩
  rw [← hls]
  refine hrec (st.set k (some b)) (by simpa using hst) (pend_set st k b h2) _ _ ⟨by rw [Act.defers_put]; exact ha.defs, by rw [Act.size_put]; exact ha.siz, ?_⟩ ?_ hm2 hls
  · intro t u hu
    have := ha.slots t u hu
    have hne : t ≠ al.d := lk_none_ne (Frs.ne hfr al hal) hu
    simp only [Act.put]
    rw [Array.getElem?_setIfInBounds_ne (Ne.symm hne)]
    exact this
  · exact σA_make A st k al b a h1 h2 hnd (fun x hx => by rw [ha.siz]; exact Nat.le_of_ble_eq_true (List.all_eq_true.1 hsz x hx)) hs
theorem CJ_regDA {id : Nat} (hmix : E.P.follows .mixedOrders = true) (hs : Region.noSelect ops = true) (hQ : ∀ c a w d v, Q (.panic c) (a.put (some d) v) w → Q (.panic c) a w) (ml pl : List Res) (hml : ∀ r, r ∈ ml → r ∈ μ) (hpl : ∀ r, r ∈ pl → r ∈ φ)
    (A : List Al) (n : Nat) (hn : ops.size = n + A.length) (hok : AlOk E.P ops A) (hnd : nodupB (dsts A) = true) (hsz : A.all (fun x => Nat.blt x.d E.N) = true) (h : AA E Q ops ml pl A n (Array.replicate ops.size false) σ μ φ) : CJ E Q (.region id ops true) σ μ φ := fun a w ha hm => by
  refine wp_region_held (S := fun w => Hold w ml ∧ Hold w pl) hmix ?_
  have hp : ∀ (A : List Al), pend (A.map fun _ => none) = A.length := by
    intro A; induction A with
    | nil => rfl
    | cons x A ih => simp [pend, ih]
  have hb : ∀ (A : List Al) (L : Array Bool), lsB A (bts (A.map fun _ => none)) L = L := by
    intro A; induction A with
    | nil => intro L; rfl
    | cons x A ih => intro L; exact ih L
  have hs0 : ∀ (A : List Al), σA A (A.map fun _ => none) = [] := by
    intro A; induction A with
    | nil => rfl
    | cons x A ih => exact ih
  have hm0 : ∀ (A : List Al), μA A (A.map fun _ => none) = [] := by
    intro A; induction A with
    | nil => rfl
    | cons x A ih => exact ih
  have := h hok hnd hsz hs hQ hml hpl (A.map fun _ => none) (by simp) a w.drew ha (by rw [hs0]; intro t v hv; cases hv) (by rw [hm0]; exact hm.drew)
  rw [hp, hb, ← hn] at this
  exact this
theorem AA_y (i : Nat) {d : Tmp} {op : Op} {ty : TypeId} {pos : String} {af : Array Edge} {g : Option (Nat × Bool)} {v : Value} (hi : ops[i]? = some ⟨some d, op, ty, pos, af, g⟩)
    (hc : allBits A.length (fun bs => Region.free .any ops (lsB A bs L) i && (Region.ready .any ops (lsB A bs L)).contains i) = true)
    (hg : grd ops σ g = some true) (hd : Nat.blt d E.N = true) (hda : (dsts A).contains d = false) (hy : YJ E op ty σ ml pl v)
    (h : AA E Q ops ml pl A fuel (L.setIfInBounds i true) ((d, v) :: σ) μ φ) : AA E Q ops ml pl A (fuel + 1) L σ μ φ := fun hok hnd hsz hsel hQ hml hpl st hst a w ha hs hm => by
  have hcc := allBits_spec _ _ hc (bts st) (by simpa [bts] using hst)
  simp only [Bool.and_eq_true] at hcc
  have hin : ∀ r, r ∈ ml → r ∈ μA A st ++ μ := fun r hr => List.mem_append_right _ (hml r hr)
  have hrec := h hok hnd hsz hsel hQ hml hpl st hst (a.put (some d) v) w (ha.put hd v) (hs.putA hda v) hm
  rw [lsB_set] at hrec
  rw [show fuel + 1 + pend st = (fuel + pend st) + 1 by omega]
  exact wpAnyH_take hi hsel hcc.1 hcc.2 (fun c a w => hQ c a w _ _) (.inl ⟨grd_wanted (o := ⟨some d, op, ty, pos, af, g⟩) ha hg, fun w' hw' => hy a w' _ _ _ _ ha.slots hw'.1 hw'.2⟩)
    ⟨hm.hold.1.sub hin, hm.hold.2.sub hpl⟩ hrec
theorem AA_end (hc : allBits A.length (fun bs => bs.all id || ((Region.ready .any ops (lsB A bs L)).all (fun j => (pendB A bs).contains j) && !(Region.ready .any ops (lsB A bs L)).isEmpty)) = true)
    (hfr : Frs σ A = true)
    (h : ∀ bs : List Nat, bs.length = A.length → AJ E Q ops ml pl fuel (lsB A (bts (bs.map some)) L) (σA A (bs.map some) ++ σ) (μA A (bs.map some) ++ μ) φ) : AA E Q ops ml pl A fuel L σ μ φ := fun hok hnd hsz hsel hQ hml hpl => by
  have hall : ∀ (st : List (Option Nat)), (bts st).all id = true → ∃ bs : List Nat, st = bs.map some ∧ pend st = 0 := by
    intro st
    induction st with
    | nil => intro _; exact ⟨[], rfl, rfl⟩
    | cons s st ih =>
      intro hh
      cases s with
      | none => simp [bts] at hh
      | some b =>
        obtain ⟨bs, h1, h2⟩ := ih (by simpa [bts] using hh)
        exact ⟨b :: bs, by simp [h1], h2⟩
  have main : ∀ n st, pend st = n → st.length = A.length → ∀ a w, OKa E σ a → Slots (σA A st) a → OKm E (μA A st ++ μ) φ w → wpAnyH E.P .any ops Q (fun w => Hold w ml ∧ Hold w pl) (fuel + pend st) (lsB A (bts st) L) a w := by
    intro n
    induction n with
    | zero => ?_
    | succ n ih => ?_
    all_goals
      intro st hn hst a w ha hs hm
      have hcc := allBits_spec _ _ hc (bts st) (by simpa [bts] using hst)
      by_cases hb : (bts st).all id = true
      · obtain ⟨bs, rfl, hp0⟩ := hall st hb
        rw [hp0, Nat.add_zero]
        refine h bs (by simpa using hst) hsel hQ (fun r hr => List.mem_append_right _ (hml r hr)) hpl a w ⟨ha.defs, ha.siz, ?_⟩ hm
        intro t v hv
        have happ : ∀ (l r : List (Nat × Value)), lk t (l ++ r) = some v → lk t l = some v ∨ (lk t l = none ∧ lk t r = some v) := by
          intro l r
          induction l with
          | nil => intro hh; exact .inr ⟨rfl, hh⟩
          | cons p l ihl =>
            intro hh
            obtain ⟨pk, pv⟩ := p
            simp only [List.cons_append, lk] at hh ⊢
            cases hbb : Nat.beq t pk with
            | true => rw [hbb] at hh; exact .inl hh
            | false => rw [hbb] at hh; exact ihl hh
        rcases happ _ _ hv with h1 | ⟨_, h1⟩
        · exact hs t v h1
        · exact ha.slots t v h1
      · simp only [hb, Bool.false_or, Bool.and_eq_true, Bool.not_eq_true', List.all_eq_true] at hcc
        first
          | (exfalso
             have hz : ∀ (st : List (Option Nat)), pend st = 0 → (bts st).all id = true := by
               intro st
               induction st with
               | nil => intro _; rfl
               | cons s st ih =>
                 intro hh
                 cases s with
                 | none => simp [pend] at hh
                 | some b => simpa [bts] using ih hh
             exact hb (hz st hn))
          | (rw [show fuel + pend st = (fuel + n) + 1 by omega]
             refine wpAnyH_all rfl (fun e => by rw [e] at hcc; simp at hcc) fun j hj => ?_
             refine AA_alloc hok hnd hfr hsz hml hpl hst (List.contains_iff_mem.1 (hcc.1 j hj)) ha hs hm ?_
             intro st' hst' hp' a' w' ha' hs' hm' _
             have := ih st' (by omega) hst' a' w' ha' hs' hm'
             rw [show fuel + n = fuel + pend st' by omega]
             exact this)
  intro st hst a w ha hs hm
  exact main _ st rfl hst a w ha hs hm
theorem AA_val {d : Nat} {u v : Value} (hb : u = v) (h : AA E Q ops ml pl A fuel L ((d, v) :: σ) μ φ) : AA E Q ops ml pl A fuel L ((d, u) :: σ) μ φ := by subst hb; exact h
end
theorem len_1 {l : List Nat} (h : l.length = 1) : ∃ a, l = [a] := by
  match l, h with
  | [a], _ => exact ⟨a, rfl⟩
theorem len_2 {l : List Nat} (h : l.length = 2) : ∃ a b, l = [a, b] := by
  match l, h with
  | [a, b], _ => exact ⟨a, b, rfl⟩
end Go.Proofs.Ytbanlhlggkdanaa
namespace Go.Proofs.Ytbanlhlggkdanaa
open Go.RowKit
section
variable {E : Env} {ty : TypeId} {σ : List (Nat × Value)} {μ φ : List Res}
variable {Q : Qt} {ops : Array Oper} {ml pl : List Res} {A : List Al} {fuel : Nat} {L : Array Bool}
end
end Go.Proofs.Ytbanlhlggkdanaa
namespace Go.Proofs.Ytbanlhlggkdanaa
open Go.RowKit
def fen (l : Nat) : Fence := Fence.wide.inRound l
def noDefer (o : Oper) : Bool := match o.op with | .defer _ => false | _ => true
theorem noDefer_spec {o : Oper} (h : noDefer o = true) : ∀ c, o.op ≠ .defer c := fun c e => by
 unfold noDefer at h; rw [e] at h; cases h
theorem rows_in {l n : Nat} {P : Program} {row : String} {args : Array Value} {w : World} {R : Value → World → Prop} (h : Rows P row args w R) : RowsIn (fen l) n P row args w R := fun c cs _ =>
 let ⟨v, w', r, s⟩ := h c cs; ⟨v, w', r, stepsIn_wide.2 s⟩
theorem in_of_wp {l n : Nat} {P : Program} {o : Oper} {a : Act} {w : World} {K : Act → World → Prop} {Q : Exit → Act → World → Prop} (hd : noDefer o = true) (h : Oper.wp P o a w K Q) : Oper.wpIn (fen l) n P o a w K Q := by
 refine ⟨fun _ _ => trivial, ?_⟩
 rw [Oper.semAt_eq _ _ _ (noDefer_spec hd)]
 unfold Oper.wp at h
 generalize (execOp a.eval o).run P w = r at *
 cases r with
 | ok nx w' =>
  cases nx with
  | value v => exact h
  | skip => exact h
  | defer d => exact h
  | enter f args => exact ⟨fun hh => (by simp [fen, Fence.wide] at hh), CallsIn.inRound l (callsIn_wide.2 h)⟩
  | row r args => exact ⟨fun hh => (by simp [fen, Fence.wide] at hh), rows_in h⟩
  | _ => exact h.elim
 | halt x w' => cases x <;> first | exact h | exact h.elim
theorem listIn_of {l n : Nat} {P : Program} {ops : Array Oper} {Q : Exit → Act → World → Prop} (hq : ¬ LetsOut Q) : ∀ (os : List Oper) (a : Act) (w : World), os.all noDefer = true → wpList P ops Q os a w → wpListIn (fen l) n P ops Q os a w
 | [], _, _, _, h => h
 | o :: os, a, w, hd, h => by
  rw [List.all_cons, Bool.and_eq_true] at hd
  unfold wpList at h
  unfold wpListIn
  split
  ·rename_i hw
   rw [if_pos hw] at h
   rcases h with h | h
   ·exact in_of_wp hd.1 (Oper.wp_mono (fun a w h => listIn_of hq os a w hd.2 h) h)
   ·exact absurd h.2 hq
  ·rename_i hw
   rw [if_neg hw] at h
   exact ⟨fun _ _ => trivial, listIn_of hq os _ _ hd.2 h⟩
theorem opIn_of {l n : Nat} {P : Program} {ops : Array Oper} {Q : Exit → Act → World → Prop} (hq : ¬ LetsOut Q) (hd : ops.toList.all noDefer = true) {i : Nat} {K K' : Act → World → Prop} (hK : ∀ a w, K a w → K' a w) {a : Act} {w : World} (h : wpOp P ops Q i K a w) : wpOpIn (fen l) n P ops Q i K' a w := by
 unfold wpOp at h
 unfold wpOpIn
 cases hi : ops[i]? with
 | none => rw [hi] at h; exact hK _ _ h
 | some o =>
  rw [hi] at h
  dsimp only at h ⊢
  have ho : noDefer o = true := List.all_eq_true.1 hd o (Array.mem_toList_iff.2 (Array.mem_of_getElem? hi))
  split
  ·rename_i hw
   rw [if_pos hw] at h
   rcases h with h | h
   ·exact in_of_wp ho (Oper.wp_mono hK h)
   ·exact absurd h.2 hq
  ·rename_i hw
   rw [if_neg hw] at h
   exact ⟨fun _ _ => trivial, hK _ _ h⟩
theorem anyIn_of {l n : Nat} {P : Program} {ops : Array Oper} {Q : Exit → Act → World → Prop} (hq : ¬ LetsOut Q) (hd : ops.toList.all noDefer = true) : ∀ (fuel : Nat) (listed : Array Bool) (a : Act) (w : World), wpAny P .any ops Q fuel listed a w → wpAnyIn (fen l) n P .any ops Q fuel listed a w
 | 0, _, _, _, h => h
 | fuel + 1, _, _, _, h => ⟨h.1, fun i hi => opIn_of hq hd (fun a w h' => anyIn_of hq hd fuel _ a w h') (h.2 i hi)⟩
theorem no_then {K : Act → World → Prop} {Q : Exit → Act → World → Prop} (h : ¬ LetsOut Q) : ¬ LetsOut (Exit.then K Q) := fun ⟨a, w, q⟩ => h ⟨a, w, q⟩
theorem no_block {i : Nat} {Q : Exit → Act → World → Prop} (h : ¬ LetsOut Q) : ¬ LetsOut (Exit.inBlock i Q) := fun ⟨a, w, q⟩ => h ⟨a, w, q⟩
section
variable {E : Env} {Q : Qt} {ops : Array Oper} {l n : Nat} {σ : List (Nat × Value)} {μ φ : List Res}
def RJ (l n : Nat) (E : Env) (Q : Qt) (c : Code) (σ : List (Nat × Value)) (μ φ : List Res) : Prop := ¬ LetsOut Q → ∀ a w, OKa E σ a → OKm E μ φ w → c.wpIn (fen l) n E.P Q a w
theorem RJ_seq {x y : Code} (h : RJ l n E (Exit.then (y.wpIn (fen l) n E.P Q) Q) x σ μ φ) : RJ l n E Q (.seq x y) σ μ φ := fun hq a w ha hm => wpIn_seq (h (no_then hq) a w ha hm)
theorem RJ_skip (h : QJ E Q .normal σ μ φ) : RJ l n E Q .skip σ μ φ := fun _ a w ha hm => wpIn_skip (h a w ha hm)
theorem RJ_ret (h : QJ E Q .ret σ μ φ) : RJ l n E Q .ret σ μ φ := fun _ a w ha hm => wpIn_ret (h a w ha hm)
theorem RJ_exit {id : Nat} (h : QJ E Q (.exit id) σ μ φ) : RJ l n E Q (.exit id) σ μ φ := fun _ a w ha hm => wpIn_exit (h a w ha hm)
theorem RJ_block {id : Nat} {c : Code} (h : RJ l n E (Exit.inBlock id Q) c σ μ φ) : RJ l n E Q (.block id c) σ μ φ := fun hq a w ha hm => wpIn_block (h (no_block hq) a w ha hm)
theorem RJ_cond {c : Operand} {x y : Code} {b : Bool} (hc : oev σ c = some (.bool b)) (ht : b = true → RJ l n E Q x σ μ φ) (hf : b = false → RJ l n E Q y σ μ φ) : RJ l n E Q (.cond c x y) σ μ φ := fun hq a w ha hm =>
 wpIn_cond_split (ha.slots.ev hc) (fun h => ht h hq a w ha hm) (fun h => hf h hq a w ha hm)
theorem RJ_condT {c : Operand} {x y : Code} (hc : oev σ c = some (.bool true)) (ht : RJ l n E Q x σ μ φ) : RJ l n E Q (.cond c x y) σ μ φ := fun hq a w ha hm => wpIn_cond_true (ha.slots.ev hc) (ht hq a w ha hm)
theorem RJ_condF {c : Operand} {x y : Code} (hc : oev σ c = some (.bool false)) (hf : RJ l n E Q y σ μ φ) : RJ l n E Q (.cond c x y) σ μ φ := fun hq a w ha hm => wpIn_cond_false (ha.slots.ev hc) (hf hq a w ha hm)
theorem QJ_thenR {y : Code} (hq : ¬ LetsOut Q) (h : RJ l n E Q y σ μ φ) : QJ E (Exit.then (y.wpIn (fen l) n E.P Q) Q) .normal σ μ φ := fun a w ha hm => h hq a w ha hm
theorem RJ_reg {id : Nat} {os : List Oper} (hd : os.all noDefer = true) (h : LJ E Q os.toArray os σ μ φ) : RJ l n E Q (.region id os.toArray false) σ μ φ := fun hq a w ha hm => wpIn_region_lit (listIn_of hq os a w hd (h a w ha hm))
theorem RJ_regD {id : Nat} (hmix : E.P.follows .mixedOrders = true) (hs : Region.noSelect ops = true) (hQ : ∀ c a w d v, Q (.panic c) (a.put (some d) v) w → Q (.panic c) a w) (ml pl : List Res) (hml : ∀ r, r ∈ ml → r ∈ μ) (hpl : ∀ r, r ∈ pl → r ∈ φ) (hd : ops.toList.all noDefer = true)
  (h : AJ E Q ops ml pl ops.size (Array.replicate ops.size false) σ μ φ) : RJ l n E Q (.region id ops true) σ μ φ := fun hq a w ha hm =>
 wpIn_region_any hmix (anyIn_of hq hd _ _ _ _ (wpAny_of_held _ _ _ _ (h hs hQ hml hpl a w.drew ha hm.drew)))
open Classical in
theorem RJ_loop {ι : Type} (F : ι → St) (I : ι → Prop) (m : ι → Nat) {c : Code} (i0 : ι) {μr : List Res} (h0 : I i0) (hs : AllLk σ (F i0).σ) (hp : List.Perm μ ((F i0).μ ++ μr)) (hf : ∀ r, r ∈ (F i0).φ → r ∈ φ)
  (h : ∀ i, I i → RJ l n E (Exit.then (fun a' w' => ∃ j, I j ∧ m j < m i ∧ OKa E (F j).σ a' ∧ OKm E (F j).μ (F j).φ w') Q) c (F i).σ (F i).μ (F i).φ) : RJ l n E Q (.loop c) σ μ φ := fun hq a w ha hm => by
 have key : ∀ (a : Act) (w : World), (∃ i, I i ∧ OKa E (F i).σ a ∧ OKm E (F i).μ (F i).φ w) → ∃ n, ∃ i, I i ∧ m i = n ∧ OKa E (F i).σ a ∧ OKm E (F i).μ (F i).φ w := fun a w ⟨i, h1, h2, h3⟩ => ⟨m i, i, h1, rfl, h2, h3⟩
 have hmin : ∀ (a : Act) (w : World), (∃ n, ∃ i, I i ∧ m i = n ∧ OKa E (F i).σ a ∧ OKm E (F i).μ (F i).φ w) → ∃ n, (∃ i, I i ∧ m i = n ∧ OKa E (F i).σ a ∧ OKm E (F i).μ (F i).φ w) ∧ ∀ n', (∃ i, I i ∧ m i = n' ∧ OKa E (F i).σ a ∧ OKm E (F i).μ (F i).φ w) → n ≤ n' := by
  intro a w ⟨n, hn⟩
  induction n using Nat.strongRecOn with
  | _ n ih =>
   by_cases hex : ∃ n', n' < n ∧ ∃ i, I i ∧ m i = n' ∧ OKa E (F i).σ a ∧ OKm E (F i).μ (F i).φ w
   ·obtain ⟨n', hlt, hn'⟩ := hex
    exact ih n' hlt hn'
   ·exact ⟨n, hn, fun n' hn' => Nat.le_of_not_lt fun hlt => hex ⟨n', hlt, hn'⟩⟩
 let μm : Act → World → Nat := fun a w => if hx : ∃ n, ∃ i, I i ∧ m i = n ∧ OKa E (F i).σ a ∧ OKm E (F i).μ (F i).φ w then (hmin a w hx).choose else 0
 have hμ : ∀ (a : Act) (w : World), (∃ i, I i ∧ OKa E (F i).σ a ∧ OKm E (F i).μ (F i).φ w) → (∃ i, I i ∧ m i = μm a w ∧ OKa E (F i).σ a ∧ OKm E (F i).μ (F i).φ w) ∧ ∀ i, I i → OKa E (F i).σ a → OKm E (F i).μ (F i).φ w → μm a w ≤ m i := by
  intro a w hx
  have hx' := key a w hx
  have hs := (hmin a w hx').choose_spec
  have e : μm a w = (hmin a w hx').choose := dif_pos hx'
  rw [e]
  exact ⟨hs.1, fun i h1 h2 h3 => hs.2 (m i) ⟨i, h1, rfl, h2, h3⟩⟩
 refine wpIn_loop (fun a w => ∃ i, I i ∧ OKa E (F i).σ a ∧ OKm E (F i).μ (F i).φ w) μm ⟨i0, h0, ⟨ha.defs, ha.siz, ha.slots.weak hs⟩, hm.weak hp hf⟩ ?_
 intro a w hI
 obtain ⟨⟨i, h1, h2, h3, h4⟩, _⟩ := hμ a w hI
 refine wpIn_mono (h i h1 (no_then hq) a w h3 h4) ?_
 intro e a' w' q
 cases e with
 | normal =>
  obtain ⟨j, k1, k2, k3, k4⟩ := q
  have hJ : ∃ i, I i ∧ OKa E (F i).σ a' ∧ OKm E (F i).μ (F i).φ w' := ⟨j, k1, k3, k4⟩
  refine ⟨hJ, ?_⟩
  have := (hμ a' w' hJ).2 j k1 k3 k4
  omega
 | _ => exact q
end
end Go.Proofs.Ytbanlhlggkdanaa
namespace Go.Proofs.Ytbanlhlggkdanaa
open Go.RowKit
theorem ent_83 : Enter Try.prog 83 = true := by kernel_rfl
theorem fld_110_0 : fld Try.prog 110 0 = some 0 := by kernel_rfl
theorem tyi_108 : tyi Try.prog 108 = some (false, 1) := by kernel_rfl
theorem ent_101 : Enter Try.prog 101 = true := by kernel_rfl
theorem zer_110 : zer Try.prog 110 = some (.agg #[.int .u64 0, .int .u64 0]) := by kernel_rfl
theorem fld_110_1 : fld Try.prog 110 1 = some 1 := by kernel_rfl
theorem lay_110 : lay1 Try.prog 110 = some [.int .u64 0, .int .u64 0] := by kernel_rfl
theorem tyi_110 : tyi Try.prog 110 = some (true, 2) := by kernel_rfl
theorem ent_107 : Enter Try.prog 107 = true := by kernel_rfl
theorem und_3 : (Try.prog.underlying 3).isSome = true := by kernel_rfl
theorem uint_108 : Try.prog.underlying 108 = some (.int .u64) := by kernel_rfl
theorem ent_128 : Enter Try.prog 128 = true := by kernel_rfl
theorem ent_91 : Enter Try.prog 91 = true := by kernel_rfl
theorem ubool_4 : Try.prog.underlying 4 = some .bool := by kernel_rfl
def IsW (hi lo n : Int) : Prop := hi = n / 18446744073709551616 % 18446744073709551616 ∧ lo = n % 18446744073709551616
def R128 (n : Int) : Prop := -170141183460469231731687303715884105728 ≤ n ∧ n < 170141183460469231731687303715884105728
instance (n : Int) : Decidable (R128 n) := inferInstanceAs (Decidable (_ ∧ _))
def I64 (n : Int) : Prop := -9223372036854775808 ≤ n ∧ n ≤ 9223372036854775807
def wvP (x : Int × Int) : Value := .agg #[.int .u64 x.1, .int .u64 x.2]
abbrev RetW (n : Int) : Value → List Res → List Res → Prop := RetX (fun x : Int × Int => IsW x.1 x.2 n) wvP (fun _ => []) (fun _ => [])
abbrev RetWo (n : Int) : Value → List Res → List Res → Prop := RetX (fun x : Int × Int => IsW x.1 x.2 (if R128 n then n else 0)) (fun x => .tuple #[wvP x, .bool (decide (R128 n))]) (fun _ => []) (fun _ => [])
theorem IsW.b {hi lo n : Int} (h : IsW hi lo n) : 0 ≤ hi ∧ hi < 18446744073709551616 ∧ 0 ≤ lo ∧ lo < 18446744073709551616 := by
 unfold IsW at h; omega
theorem IsW.neg {hi lo n : Int} (h : IsW hi lo n) (hr : R128 n) : (hi / 9223372036854775808 = 1) ↔ n < 0 := by
 unfold IsW at h; unfold R128 at hr; omega
theorem IsW.zero {hi lo n : Int} (h : IsW hi lo n) (hr : R128 n) : (hi = 0 ∧ lo = 0) ↔ n = 0 := by
 unfold IsW at h; unfold R128 at hr; omega
theorem IsW.ext {hi lo hi' lo' n n' : Int} (h : IsW hi lo n) (hr : R128 n) (h' : IsW hi' lo' n') (hr' : R128 n') : (hi = hi' ∧ lo = lo') ↔ n = n' := by
 unfold IsW at h h'; unfold R128 at hr hr'; omega
theorem add64_run (x y c : Int) (hx : 0 ≤ x) (hy : 0 ≤ y) (hc0 : 0 ≤ c) (hc : c ≤ 1) (w : World) :
  (callFunc 99 [.int .u64 x, .int .u64 y, .int .u64 c].toArray).run Try.prog w =
   .ok (.value (.tuple #[.int .u64 ((x + y + c) % 18446744073709551616), .int .u64 ((x + y + c) / 18446744073709551616)])) w := by
 rw [run_callFunc_extern Try.func99 (by kernel_rfl) (by kernel_rfl) (by kernel_rfl) (e := add64Entry) (by kernel_rfl)]
 have := run_add64 (P := Try.prog) x y c hx hy hc0 hc w
 show ((add64Entry #[.int .u64 x, .int .u64 y, .int .u64 c]).run Try.prog w).andThen _ = _
 rw [this]
 simp only [Result.andThen]
theorem sub64_run (x y c : Int) (hx : 0 ≤ x) (hy : 0 ≤ y) (hc0 : 0 ≤ c) (hc : c ≤ 1) (w : World) :
  (callFunc 100 [.int .u64 x, .int .u64 y, .int .u64 c].toArray).run Try.prog w =
   .ok (.value (.tuple #[.int .u64 (((x.toNat + 18446744073709551616 - y.toNat - c.toNat) % 18446744073709551616 : Nat) : Int), .int .u64 ((if x.toNat < y.toNat + c.toNat then 1 else 0 : Nat) : Int)])) w := by
 rw [run_callFunc_extern Try.func100 (by kernel_rfl) (by kernel_rfl) (by kernel_rfl) (e := sub64Entry) (by kernel_rfl)]
 have := run_sub64 (P := Try.prog) x.toNat y.toNat c.toNat (by omega) w
 have e1 : ((x.toNat : Nat) : Int) = x := by omega
 have e2 : ((y.toNat : Nat) : Int) = y := by omega
 have e3 : ((c.toNat : Nat) : Int) = c := by omega
 rw [e1, e2, e3] at this
 show ((sub64Entry #[.int .u64 x, .int .u64 y, .int .u64 c]).run Try.prog w).andThen _ = _
 rw [this]
 simp only [Result.andThen]
theorem sub64_run' (x y c : Int) (hx : 0 ≤ x) (hx1 : x < 18446744073709551616) (hy : 0 ≤ y) (hy1 : y < 18446744073709551616) (hc0 : 0 ≤ c) (hc : c ≤ 1) (w : World) :
  (callFunc 100 [.int .u64 x, .int .u64 y, .int .u64 c].toArray).run Try.prog w =
   .ok (.value (.tuple #[.int .u64 ((x - y - c) % 18446744073709551616), .int .u64 (-((x - y - c) / 18446744073709551616))])) w := by
 rw [sub64_run x y c hx hy hc0 hc w]
 have e1 : (((x.toNat + 18446744073709551616 - y.toNat - c.toNat) % 18446744073709551616 : Nat) : Int) = (x - y - c) % 18446744073709551616 := by omega
 have e2 : ((if x.toNat < y.toNat + c.toNat then 1 else 0 : Nat) : Int) = -((x - y - c) / 18446744073709551616) := by
  by_cases h : x.toNat < y.toNat + c.toNat
  ·rw [if_pos h]; omega
  ·rw [if_neg h]; omega
 rw [e1, e2]
theorem mul64_c (x y : Int) (hx : 0 ≤ x) (hx1 : x < 18446744073709551616) (hy : 0 ≤ y) (hy1 : y < 18446744073709551616) :
  Tri Try.prog 106 [.int .u64 x, .int .u64 y] [] [] (Ret0 (.tuple #[.int .u64 (x * y / 18446744073709551616), .int .u64 (x * y % 18446744073709551616)])) := by
 refine Tri_of_calls (by kernel_rfl) fun w => ?_
 have := Try.bits_Mul64 x.toNat y.toNat (by omega) (by omega) w
 have e1 : ((x.toNat : Nat) : Int) = x := by omega
 have e2 : ((y.toNat : Nat) : Int) = y := by omega
 rw [e1, e2] at this
 have e3 : ((x.toNat * y.toNat : Nat) : Int) = x * y := by rw [Int.natCast_mul, e1, e2]
 rw [show ((x.toNat * y.toNat / 18446744073709551616 : Nat) : Int) = x * y / 18446744073709551616 from by rw [← e3]; omega,
  show ((x.toNat * y.toNat % 18446744073709551616 : Nat) : Int) = x * y % 18446744073709551616 from by rw [← e3]; omega] at this
 exact this
theorem len64_c (x : Int) (h0 : 0 ≤ x) (h1 : x < 18446744073709551616) : Tri Try.prog 119 [.int .u64 x] [] [] (Ret0 (.int .i64 (Lib.bitLen x.toNat))) :=
 Tri_of_calls (by kernel_rfl) fun w => Try.bits_Len64 x w h0 (by omega)
theorem eqs_eql_110 (a b c d : Int) (x y : Operand) (w : World) :
  (do eqGuard .eql 110 x y (.agg #[.int .u64 a, .int .u64 b]) (.agg #[.int .u64 c, .int .u64 d]); binOp .eql 110 (.agg #[.int .u64 a, .int .u64 b]) (.agg #[.int .u64 c, .int .u64 d]) : Sem Value).run Try.prog w = .ok (.bool (decide (a = c) && decide (b = d))) w := by
 have hf : Try.prog.underlying 110 = some (.struct (Try.prog.fieldsOf 110)) := by kernel_rfl
 simp only [Sem.run_bind]
 rw [run_eqGuard_agg w .eql 110 x y _ _ (by kernel_rfl)]
 simp only [Result.andThen_ok, run_eql_struct]
 rw [show (10000 : Nat) = 9999 + 1 from rfl, run_equalIn_agg w 9999 110 _ _ hf (by kernel_rfl)]
 simp [go_sem]
 by_cases h1 : a = c <;> by_cases h2 : b = d <;> simp [h1, h2]
theorem pabs (n m : Int) : (n.natAbs : Int) * (m.natAbs : Int) = if (n < 0) ↔ (m < 0) then n * m else -(n * m) := by
 by_cases hn : n < 0 <;> by_cases hm : m < 0
 ·rw [if_pos (by omega), show (n.natAbs : Int) = -n by omega, show (m.natAbs : Int) = -m by omega, Int.neg_mul_neg]
 ·rw [if_neg (by omega), show (n.natAbs : Int) = -n by omega, show (m.natAbs : Int) = m by omega, Int.neg_mul]
 ·rw [if_neg (by omega), show (n.natAbs : Int) = n by omega, show (m.natAbs : Int) = -m by omega, Int.mul_neg]
 ·rw [if_pos (by omega), show (n.natAbs : Int) = n by omega, show (m.natAbs : Int) = m by omega]
theorem pabs_b {n m : Int} (hn : I64 n) (hm : I64 m) : 0 ≤ (n.natAbs : Int) * (m.natAbs : Int) ∧ (n.natAbs : Int) * (m.natAbs : Int) ≤ 85070591730234615865843651857942052864 := by
 unfold I64 at hn hm
 have h1 : (n.natAbs : Int) ≤ 9223372036854775808 := by omega
 have h2 : (m.natAbs : Int) ≤ 9223372036854775808 := by omega
 have h3 : (0 : Int) ≤ n.natAbs := by omega
 have h4 : (0 : Int) ≤ m.natAbs := by omega
 have := Int.mul_le_mul h1 h2 h4 (by omega)
 exact ⟨Int.mul_nonneg h3 h4, by omega⟩
theorem isW_words {p : Int} (h0 : 0 ≤ p) (h1 : p ≤ 85070591730234615865843651857942052864) : IsW (p / 18446744073709551616) (p % 18446744073709551616) p := by
 unfold IsW; omega
set_option maxRecDepth 100000 in
set_option maxHeartbeats 1000000 in
theorem minus_c (hi lo : Int) : Tri Try.prog 83 [.agg #[.int .u64 hi, .int .u64 lo]] [] [] (Ret0 (.bool (decide (hi / 9223372036854775808 = 1)))) := by
 refine Tri_of (N := 7) Try.func83 rfl ent_83 rfl rfl ?_
 intro w0 S0 T0
 show CJ _ _ _ [(0, _)] _ _
 refine CJ_seq ?_
 refine CJ_reg ?_
 refine LJ_box (cs := #[_, _]) rfl rfl rfl rfl ?_
 intro b1
 refine LJ_y rfl rfl (YJ_assign rfl) ?_
 refine LJ_nil ?_
 refine QJ_then ?_
 refine CJ_seq ?_
 refine CJ_reg ?_
 refine LJ_y rfl rfl (YJ_fieldOwn rfl fld_110_0 rfl) ?_
 refine LJ_y rfl rfl (YJ_loadL rfl tyi_108 m0 rfl) ?_
 refine LJ_y rfl rfl (YJ_shr rfl rfl (by decide)) ?_
 refine LJ_y rfl rfl (YJ_bin rfl rfl rfl) ?_
 refine LJ_y rfl rfl (YJ_assign rfl) ?_
 refine LJ_nil ?_
 refine QJ_then ?_
 refine CJ_ret ?_
 refine QJ_fin (.inl rfl) (μ' := []) (μr := _) (φ' := []) (res_tmp rfl rfl) (List.Perm.refl _) (fun _ h => nomatch h) ?_
 exact ⟨rfl, rfl, rfl⟩
set_option maxRecDepth 100000 in
set_option maxHeartbeats 1000000 in
theorem turn_c {hi lo n : Int} (h : IsW hi lo n) : Tri Try.prog 101 [.agg #[.int .u64 hi, .int .u64 lo]] [] [] (RetW (-n)) := by
 refine Tri_of (N := 25) Try.func101 rfl ent_101 rfl rfl ?_
 intro w0 S0 T0
 show CJ _ _ _ [(0, _)] _ _
 have hb := h.b
 obtain ⟨hb1, hb2, hb3, hb4⟩ := hb
 refine CJ_seq ?_
 refine CJ_reg ?_
 refine LJ_box (cs := #[_, _]) rfl rfl rfl rfl ?_
 intro b1
 refine LJ_alloc (cs := #[_, _]) rfl rfl zer_110 rfl ?_
 intro b2
 refine LJ_nil ?_
 refine QJ_then ?_
 refine CJ_seq ?_
 refine CJ_reg ?_
 refine LJ_y rfl rfl (YJ_fieldOwn rfl fld_110_1 rfl) ?_
 refine LJ_y rfl rfl (YJ_loadL rfl tyi_108 m1 rfl) ?_
 refine LJ_y rfl rfl (YJ_xor rfl (by assumption) (by assumption)) ?_
 refine LJ_y rfl rfl (YJ_ext rfl rfl (fun w => add64_run _ _ _ (by omega) (by omega) (by omega) (by omega) w)) ?_
 refine LJ_y rfl rfl (YJ_move rfl) ?_
 refine LJ_y rfl rfl (YJ_extract rfl rfl) ?_
 refine LJ_y rfl rfl (YJ_extract rfl rfl) ?_
 refine LJ_y rfl rfl (YJ_assign rfl) ?_
 refine LJ_y rfl rfl (YJ_assign rfl) ?_
 refine LJ_nil ?_
 refine QJ_then ?_
 refine CJ_seq ?_
 refine CJ_reg ?_
 refine LJ_y rfl rfl (YJ_fieldOwn rfl fld_110_0 rfl) ?_
 refine LJ_y rfl rfl (YJ_loadL rfl tyi_108 m1 rfl) ?_
 refine LJ_y rfl rfl (YJ_xor rfl (by assumption) (by assumption)) ?_
 refine LJ_y rfl rfl (YJ_move rfl) ?_
 refine LJ_y rfl rfl (YJ_ext rfl rfl (fun w => add64_run _ _ _ (by omega) (by omega) (by omega) (by omega) w)) ?_
 refine LJ_y rfl rfl (YJ_move rfl) ?_
 refine LJ_y rfl rfl (YJ_extract rfl rfl) ?_
 refine LJ_y rfl rfl (YJ_extract rfl rfl) ?_
 refine LJ_y rfl rfl (YJ_assign rfl) ?_
 refine LJ_y rfl rfl (YJ_assign rfl) ?_
 refine LJ_nil ?_
 refine QJ_then ?_
 refine CJ_seq ?_
 refine CJ_reg ?_
 refine LJ_y rfl rfl (YJ_move rfl) ?_
 refine LJ_y rfl rfl (YJ_move rfl) ?_
 refine LJ_y rfl rfl (YJ_build1 (cs := [_, _]) lay_110 rfl rfl rfl) ?_
 refine LJ_store (cs' := #[_, _]) (μ' := [_, _]) 0 rfl rfl rfl rfl tyi_110 rfl (Nat.le_of_ble_eq_true rfl) rfl rfl rfl ?_
 refine LJ_nil ?_
 refine QJ_then ?_
 refine CJ_ret ?_
 refine QJ_fin (.inl rfl) (μ' := []) (μr := _) (φ' := []) (res_cell (vs := [_, _]) rfl rfl m0 tyi_110 rfl) (List.Perm.refl _) (fun _ h => nomatch h) ?_
 exact ⟨(_, _), by unfold IsW at h ⊢; dsimp only; omega, rfl, rfl, rfl⟩
set_option maxRecDepth 100000 in
set_option maxHeartbeats 1000000 in
theorem abs_c {n : Int} (h : I64 n) : Tri Try.prog 107 [.int .i64 n] [] [] (Ret0 (.int .u64 (n.natAbs : Int))) := by
 refine Tri_of (N := 10) Try.func107 rfl ent_107 rfl rfl ?_
 intro w0 S0 T0
 show CJ _ _ _ [(0, _)] _ _
 unfold I64 at h
 refine CJ_seq ?_
 refine CJ_reg ?_
 refine LJ_y rfl rfl (YJ_assign rfl) ?_
 refine LJ_nil ?_
 refine QJ_then ?_
 refine CJ_seq ?_
 refine CJ_seq ?_
 refine CJ_reg ?_
 refine LJ_y rfl rfl (YJ_move rfl) ?_
 refine LJ_y rfl rfl (YJ_bin rfl rfl rfl) ?_
 refine LJ_nil ?_
 refine QJ_then ?_
 refine CJ_cond rfl (fun h4 => ?_) (fun h4 => ?_)
 ·simp only [decide_eq_true_eq] at h4
  refine CJ_seq ?_
  refine CJ_reg ?_
  refine LJ_y rfl rfl (YJ_move rfl) ?_
  refine LJ_y rfl rfl (YJ_convII rfl und_3 uint_108) ?_
  refine LJ_y rfl rfl (YJ_neg rfl rfl) ?_
  refine LJ_y rfl rfl (YJ_assign rfl) ?_
  refine LJ_nil ?_
  refine QJ_then ?_
  refine CJ_ret ?_
  refine QJ_then_ret ?_
  refine QJ_fin (.inl rfl) (μ' := []) (μr := _) (φ' := []) (res_tmp rfl rfl) (List.Perm.refl _) (fun _ h => nomatch h) ?_
  exact ⟨congrArg (Value.int .u64) (by (first | rw [IntKind.wrap_u64, IntKind.wrap_u64] | rw [IntKind.wrap_u64]); omega), rfl, rfl⟩
 ·simp only [decide_eq_false_iff_not] at h4
  refine CJ_skip ?_
  refine QJ_then ?_
  refine CJ_seq ?_
  refine CJ_reg ?_
  refine LJ_y rfl rfl (YJ_move rfl) ?_
  refine LJ_y rfl rfl (YJ_convII rfl und_3 uint_108) ?_
  refine LJ_y rfl rfl (YJ_assign rfl) ?_
  refine LJ_nil ?_
  refine QJ_then ?_
  refine CJ_ret ?_
  refine QJ_fin (.inl rfl) (μ' := []) (μr := _) (φ' := []) (res_tmp rfl rfl) (List.Perm.refl _) (fun _ h => nomatch h) ?_
  exact ⟨congrArg (Value.int .u64) (by (first | rw [IntKind.wrap_u64, IntKind.wrap_u64] | rw [IntKind.wrap_u64]); omega), rfl, rfl⟩
set_option maxRecDepth 100000 in
set_option maxHeartbeats 1000000 in
theorem pick_c {hi lo : Int} {b : Bool} : Tri Try.prog 128 [.agg #[.int .u64 hi, .int .u64 lo], .bool b] [] [] (Ret0 (.tuple #[if b then .agg #[.int .u64 hi, .int .u64 lo] else .agg #[.int .u64 0, .int .u64 0], .bool b])) := by
 refine Tri_of (N := 10) Try.func128 rfl ent_128 rfl rfl ?_
 intro w0 S0 T0
 show CJ _ _ _ [(0, _), (1, _)] _ _
 refine CJ_seq ?_
 refine CJ_reg ?_
 refine LJ_box (cs := #[_, _]) rfl rfl rfl rfl ?_
 intro b1
 refine LJ_alloc (cs := #[_, _]) rfl rfl zer_110 rfl ?_
 intro b2
 refine LJ_y rfl rfl (YJ_assign rfl) ?_
 refine LJ_nil ?_
 refine QJ_then ?_
 refine CJ_seq ?_
 refine CJ_seq ?_
 refine CJ_reg ?_
 refine LJ_y rfl rfl (YJ_move rfl) ?_
 refine LJ_y rfl rfl (YJ_not rfl) ?_
 refine LJ_nil ?_
 refine QJ_then ?_
 refine CJ_cond rfl (fun h7 => ?_) (fun h7 => ?_)
 ·simp only [Bool.not_eq_true'] at h7
  refine CJ_seq ?_
  refine CJ_reg ?_
  refine LJ_y rfl rfl (YJ_build1 (cs := [_, _]) lay_110 rfl rfl rfl) ?_
  refine LJ_store (cs' := #[_, _]) (μ' := [_, _]) 0 rfl rfl rfl rfl tyi_110 rfl (Nat.le_of_ble_eq_true rfl) rfl rfl rfl ?_
  refine LJ_y rfl rfl (YJ_assign rfl) ?_
  refine LJ_nil ?_
  refine QJ_then ?_
  refine CJ_ret ?_
  refine QJ_then_ret ?_
  refine QJ_fin (.inl rfl) (μ' := []) (μr := _) (φ' := []) (res_cell_tmp (vs := [_, _]) rfl rfl m0 tyi_110 rfl rfl) (List.Perm.refl _) (fun _ h => nomatch h) ?_
  subst_vars; exact ⟨rfl, rfl, rfl⟩
 ·simp only [Bool.not_eq_false'] at h7
  refine CJ_skip ?_
  refine QJ_then ?_
  refine CJ_seq ?_
  refine CJ_reg ?_
  refine LJ_y rfl rfl (YJ_loadN (vs := [_, _]) rfl tyi_110 m1 rfl rfl) ?_
  refine LJ_store (cs' := #[_, _]) (μ' := [_, _]) 0 rfl rfl rfl rfl tyi_110 rfl (Nat.le_of_ble_eq_true rfl) rfl rfl rfl ?_
  refine LJ_y rfl rfl (YJ_assign rfl) ?_
  refine LJ_nil ?_
  refine QJ_then ?_
  refine CJ_ret ?_
  refine QJ_fin (.inl rfl) (μ' := []) (μr := _) (φ' := []) (res_cell_tmp (vs := [_, _]) rfl rfl m0 tyi_110 rfl rfl) (List.Perm.refl _) (fun _ h => nomatch h) ?_
  subst_vars; exact ⟨rfl, rfl, rfl⟩
set_option maxRecDepth 100000 in
set_option maxHeartbeats 1000000 in
theorem wmul_c {n m : Int} (hn : I64 n) (hm : I64 m) : Tri Try.prog 91 [.int .i64 n, .int .i64 m] [] [] (RetW (n * m)) := by
 refine Tri_of (N := 29) Try.func91 rfl ent_91 rfl rfl ?_
 intro w0 S0 T0
 show CJ _ _ _ [(0, _), (1, _)] _ _
 have hb := isW_words (pabs_b hn hm).1 (pabs_b hn hm).2
 have hp := pabs n m
 have hn1 : 0 ≤ (n.natAbs : Int) ∧ (n.natAbs : Int) < 18446744073709551616 := by unfold I64 at hn; omega
 have hm1 : 0 ≤ (m.natAbs : Int) ∧ (m.natAbs : Int) < 18446744073709551616 := by unfold I64 at hm; omega
 refine CJ_seq ?_
 refine CJ_reg ?_
 refine LJ_alloc (cs := #[_, _]) rfl rfl zer_110 rfl ?_
 intro b1
 refine LJ_nil ?_
 refine QJ_then ?_
 refine CJ_seq ?_
 refine CJ_reg ?_
 refine LJ_y rfl rfl (YJ_move rfl) ?_
 refine LJ_call0 rfl rfl rfl rfl rfl (abs_c (by assumption)) (AllIn.sub (by first | exact trivial | exact And.intro (by repeat first | exact .head _ | apply List.Mem.tail) trivial | exact And.intro (by repeat first | exact .head _ | apply List.Mem.tail) (And.intro (by repeat first | exact .head _ | apply List.Mem.tail) trivial))) ?_
 refine LJ_y rfl rfl (YJ_move rfl) ?_
 refine LJ_call0 rfl rfl rfl rfl rfl (abs_c (by assumption)) (AllIn.sub (by first | exact trivial | exact And.intro (by repeat first | exact .head _ | apply List.Mem.tail) trivial | exact And.intro (by repeat first | exact .head _ | apply List.Mem.tail) (And.intro (by repeat first | exact .head _ | apply List.Mem.tail) trivial))) ?_
 refine LJ_call0 rfl rfl rfl rfl rfl (mul64_c _ _ hn1.1 hn1.2 hm1.1 hm1.2) (AllIn.sub (by first | exact trivial | exact And.intro (by repeat first | exact .head _ | apply List.Mem.tail) trivial | exact And.intro (by repeat first | exact .head _ | apply List.Mem.tail) (And.intro (by repeat first | exact .head _ | apply List.Mem.tail) trivial))) ?_
 refine LJ_y rfl rfl (YJ_move rfl) ?_
 refine LJ_y rfl rfl (YJ_extract rfl rfl) ?_
 refine LJ_y rfl rfl (YJ_extract rfl rfl) ?_
 refine LJ_y rfl rfl (YJ_assign rfl) ?_
 refine LJ_y rfl rfl (YJ_assign rfl) ?_
 refine LJ_nil ?_
 refine QJ_then ?_
 refine CJ_seq ?_
 refine CJ_seq ?_
 refine CJ_reg ?_
 refine LJ_y rfl rfl (YJ_move rfl) ?_
 refine LJ_y rfl rfl (YJ_move rfl) ?_
 refine LJ_y rfl rfl (YJ_build1 (cs := [_, _]) lay_110 rfl rfl rfl) ?_
 refine LJ_alloc (cs := #[_, _]) rfl rfl zer_110 rfl ?_
 intro b2
 refine LJ_store (cs' := #[_, _]) (μ' := [_, _]) 0 rfl rfl rfl rfl tyi_110 rfl (Nat.le_of_ble_eq_true rfl) rfl rfl rfl ?_
 refine LJ_nil ?_
 refine QJ_then ?_
 refine CJ_seq ?_
 refine CJ_reg ?_
 refine LJ_y rfl rfl (YJ_move rfl) ?_
 refine LJ_y rfl rfl (YJ_bin rfl rfl rfl) ?_
 refine LJ_y rfl rfl (YJ_move rfl) ?_
 refine LJ_y rfl rfl (YJ_bin rfl rfl rfl) ?_
 refine LJ_y rfl rfl (YJ_neb rfl rfl ubool_4) ?_
 refine LJ_nil ?_
 refine QJ_then ?_
 refine CJ_cond rfl (fun h23 => ?_) (fun h23 => ?_)
 ·simp only [bne_iff_ne, ne_eq, decide_eq_decide] at h23
  refine CJ_seq ?_
  refine CJ_reg ?_
  refine LJ_y rfl rfl (YJ_loadN (vs := [_, _]) rfl tyi_110 m0 rfl rfl) ?_
  refine LJ_callX rfl rfl rfl rfl rfl (turn_c hb) (AllIn.sub (by first | exact trivial | exact And.intro (by repeat first | exact .head _ | apply List.Mem.tail) trivial | exact And.intro (by repeat first | exact .head _ | apply List.Mem.tail) (And.intro (by repeat first | exact .head _ | apply List.Mem.tail) trivial))) ?_
  rintro ⟨_, _⟩ ht
  refine LJ_store (cs' := #[_, _]) (μ' := [_, _]) 1 rfl rfl rfl rfl tyi_110 rfl (Nat.le_of_ble_eq_true rfl) rfl rfl rfl ?_
  refine LJ_nil ?_
  refine QJ_then ?_
  refine CJ_ret ?_
  refine QJ_then_ret ?_
  refine QJ_fin (.inl rfl) (μ' := []) (μr := _) (φ' := []) (res_cell (vs := [_, _]) rfl rfl m1 tyi_110 rfl) (List.Perm.refl _) (fun _ h => nomatch h) ?_
  rw [hp, if_neg (by omega), Int.neg_neg] at ht; exact ⟨(_, _), ht, rfl, rfl, rfl⟩
 ·simp only [bne_eq_false_iff_eq, decide_eq_decide] at h23
  refine CJ_skip ?_
  refine QJ_then ?_
  refine CJ_seq ?_
  refine CJ_reg ?_
  refine LJ_y rfl rfl (YJ_move rfl) ?_
  refine LJ_y rfl rfl (YJ_move rfl) ?_
  refine LJ_y rfl rfl (YJ_build1 (cs := [_, _]) lay_110 rfl rfl rfl) ?_
  refine LJ_store (cs' := #[_, _]) (μ' := [_, _]) 1 rfl rfl rfl rfl tyi_110 rfl (Nat.le_of_ble_eq_true rfl) rfl rfl rfl ?_
  refine LJ_nil ?_
  refine QJ_then ?_
  refine CJ_ret ?_
  refine QJ_fin (.inl rfl) (μ' := []) (μr := _) (φ' := []) (res_cell (vs := [_, _]) rfl rfl m1 tyi_110 rfl) (List.Perm.refl _) (fun _ h => nomatch h) ?_
  rw [if_pos (by omega)] at hp; refine ⟨(_, _), ?_, rfl, rfl, rfl⟩; rw [← hp]; exact hb
end Go.Proofs.Ytbanlhlggkdanaa
namespace Go.Proofs.Ytbanlhlggkdanaa
def BB : Nat := 18446744073709551616
def val : List Nat → Nat
 | [] => 0
 | x :: l => x + BB * val l
def W64 (l : List Nat) : Prop := ∀ x, x ∈ l → x < BB
def digits (n : Nat) : List Nat := if h : n = 0 then [] else (n % BB) :: digits (n / BB)
termination_by n
decreasing_by exact Nat.div_lt_self (Nat.pos_of_ne_zero h) (by decide)
theorem digits_zero : digits 0 = [] := by rw [digits]; simp
theorem digits_pos {n : Nat} (h : n ≠ 0) : digits n = (n % BB) :: digits (n / BB) := by rw [digits]; simp [h]
theorem BB_pos : 0 < BB := by decide
theorem val_digits (n : Nat) : val (digits n) = n := by
 induction n using Nat.strongRecOn with
 | _ n ih =>
  by_cases h : n = 0
  ·subst h; rw [digits_zero]; rfl
  ·rw [digits_pos h, val, ih _ (Nat.div_lt_self (Nat.pos_of_ne_zero h) (by decide))]
   exact Nat.mod_add_div n BB
theorem digits_w (n : Nat) : W64 (digits n) := by
 induction n using Nat.strongRecOn with
 | _ n ih =>
  by_cases h : n = 0
  ·subst h; rw [digits_zero]; intro x hx; cases hx
  ·rw [digits_pos h]
   intro x hx
   rcases List.mem_cons.1 hx with rfl | hx
   ·exact Nat.mod_lt _ BB_pos
   ·exact ih _ (Nat.div_lt_self (Nat.pos_of_ne_zero h) (by decide)) x hx
theorem digits_nil {n : Nat} : digits n = [] ↔ n = 0 := by
 constructor
 ·intro h
  have := val_digits n
  rw [h] at this
  exact this.symm
 ·rintro rfl; exact digits_zero
theorem digits_val : ∀ (l : List Nat), W64 l → (∀ h : l ≠ [], l.getLast h ≠ 0) → digits (val l) = l
 | [], _, _ => digits_zero
 | [x], hw, hl => by
  have hx : x < BB := hw x (.head _)
  have h0 : x ≠ 0 := hl (by simp)
  have hv : val [x] = x := by simp [val]
  rw [hv, digits_pos h0, Nat.mod_eq_of_lt hx, Nat.div_eq_of_lt hx, digits_zero]
 | x :: y :: l, hw, hl => by
  have hx : x < BB := hw x (.head _)
  have ih := digits_val (y :: l) (fun z hz => hw z (.tail _ hz)) (fun h => by have := hl (by simp); rwa [List.getLast_cons h] at this)
  have hne : val (y :: l) ≠ 0 := fun h => by rw [h, digits_zero] at ih; cases ih
  have hv : val (x :: y :: l) = x + BB * val (y :: l) := rfl
  have hp := BB_pos
  have hne2 : x + BB * val (y :: l) ≠ 0 := by
   have := Nat.mul_pos hp (Nat.pos_of_ne_zero hne); omega
  rw [hv, digits_pos hne2, Nat.add_mul_mod_self_left, Nat.mod_eq_of_lt hx, Nat.add_mul_div_left _ _ hp, Nat.div_eq_of_lt hx, Nat.zero_add, ih]
theorem val_append (l r : List Nat) : val (l ++ r) = val l + BB ^ l.length * val r := by
 induction l with
 | nil => simp [val]
 | cons x l ih => simp only [List.cons_append, val, ih, List.length_cons, Nat.pow_succ, Nat.mul_add, Nat.add_assoc]; congr 2; rw [Nat.mul_comm (BB ^ l.length) BB, Nat.mul_assoc]
theorem val_take_succ {l : List Nat} {k : Nat} (h : k < l.length) : val (l.take (k + 1)) = val (l.take k) + BB ^ k * l.getD k 0 := by
 rw [List.take_succ_eq_append_getElem h, val_append]
 simp [val, List.length_take, Nat.min_eq_left (Nat.le_of_lt h), List.getD, List.getElem?_eq_getElem h]
theorem val_take_all {l : List Nat} {k : Nat} (h : l.length ≤ k) : val (l.take k) = val l := by rw [List.take_of_length_le h]
theorem W64.take {l : List Nat} (h : W64 l) (k : Nat) : W64 (l.take k) := fun x hx => h x (List.mem_of_mem_take hx)
theorem W64.getD {l : List Nat} (h : W64 l) (k : Nat) : l.getD k 0 < BB := by
 rcases Nat.lt_or_ge k l.length with hk | hk
 ·rw [List.getD, List.getElem?_eq_getElem hk]; exact h _ (List.getElem_mem hk)
 ·rw [List.getD, List.getElem?_eq_none hk]; exact BB_pos
theorem digits_take {l : List Nat} {k : Nat} (hw : W64 l) (hk : k ≤ l.length) (hv : val (l.take k) = val l) (h0 : k = 0 ∨ l.getD (k - 1) 0 ≠ 0) : digits (val l) = l.take k := by
 rw [← hv]
 refine digits_val _ (hw.take k) fun hne => ?_
 have hk0 : k ≠ 0 := fun e => by subst e; simp at hne
 have h1 := h0.resolve_left hk0
 have hkl : k - 1 < l.length := by omega
 have hlen : (l.take k).length = k := by simp; omega
 rw [List.getLast_eq_getElem]
 simp only [hlen, List.getElem_take]
 rw [List.getD, List.getElem?_eq_getElem hkl] at h1
 exact h1
theorem val_lt {l : List Nat} (hw : W64 l) : val l < BB ^ l.length := by
 induction l with
 | nil => simp [val]
 | cons x l ih =>
  have hx : x < BB := hw x (.head _)
  have := ih (fun y hy => hw y (.tail _ hy))
  simp only [val, List.length_cons, Nat.pow_succ]
  have h2 : BB * val l + BB ≤ BB * BB ^ l.length := by
   rw [← Nat.mul_succ]; exact Nat.mul_le_mul_left _ this
  rw [Nat.mul_comm (BB ^ l.length) BB]
  omega
theorem digits_len {n k : Nat} (h : n < BB ^ k) : (digits n).length ≤ k := by
 induction k generalizing n with
 | zero =>
  have : n = 0 := by simp at h; omega
  subst this; rw [digits_zero]; simp
 | succ k ih =>
  by_cases h0 : n = 0
  ·subst h0; rw [digits_zero]; simp
  ·rw [digits_pos h0]
   have : n / BB < BB ^ k := by
    rw [Nat.div_lt_iff_lt_mul BB_pos]
    rwa [Nat.pow_succ] at h
   have := ih this
   simp; omega
theorem val_zeros (k : Nat) : val (List.replicate k 0) = 0 := by
 induction k with
 | zero => rfl
 | succ k ih => simp [List.replicate_succ, val, ih]
theorem W64.nil : W64 [] := fun _ h => nomatch h
theorem W64.append {l r : List Nat} (h : W64 l) (h' : W64 r) : W64 (l ++ r) := fun x hx => (List.mem_append.1 hx).elim (h x) (h' x)
theorem W64.one {x : Nat} (h : x < BB) : W64 [x] := fun y hy => by rcases List.mem_singleton.1 hy with rfl; exact h
theorem val_cmp_lt {l r : List Nat} {k : Nat} (hl : W64 l) (hlen : l.length = r.length) (hk : k < l.length) (he : l.drop (k + 1) = r.drop (k + 1)) (hlt : l.getD k 0 < r.getD k 0) : val l < val r := by
 have hkr : k < r.length := by omega
 have e1 : l = l.take k ++ (l.getD k 0 :: l.drop (k + 1)) := by
  rw [List.getD, List.getElem?_eq_getElem hk, Option.getD_some, List.getElem_cons_drop, List.take_append_drop]
 have e2 : r = r.take k ++ (r.getD k 0 :: r.drop (k + 1)) := by
  rw [List.getD, List.getElem?_eq_getElem hkr, Option.getD_some, List.getElem_cons_drop, List.take_append_drop]
 have v1 : val l = val (l.take k) + BB ^ k * (l.getD k 0 + BB * val (l.drop (k + 1))) := by
  conv => lhs; rw [e1, val_append]
  simp [val, Nat.min_eq_left (Nat.le_of_lt hk)]
 have v2 : val r = val (r.take k) + BB ^ k * (r.getD k 0 + BB * val (r.drop (k + 1))) := by
  conv => lhs; rw [e2, val_append]
  simp [val, Nat.min_eq_left (Nat.le_of_lt hkr)]
 have h1 := val_lt (hl.take k)
 rw [show (l.take k).length = k by simp; omega] at h1
 rw [v1, v2, he]
 have : BB ^ k * (l.getD k 0 + BB * val (r.drop (k + 1))) + BB ^ k ≤ BB ^ k * (r.getD k 0 + BB * val (r.drop (k + 1))) := by
  rw [← Nat.mul_succ]; exact Nat.mul_le_mul_left _ (by omega)
 omega
theorem digits_len_lt {n m : Nat} (h : (digits n).length < (digits m).length) : n < m := by
 have h1 := val_lt (digits_w n)
 rw [val_digits] at h1
 rcases Nat.lt_or_ge n m with h' | h'
 ·exact h'
 ·have : m < BB ^ (digits n).length := Nat.lt_of_le_of_lt h' h1
  have := digits_len this
  omega
end Go.Proofs.Ytbanlhlggkdanaa
namespace Go.Proofs.Ytbanlhlggkdanaa
open Go.RowKit
theorem ent_98 : Enter Try.prog 98 = true := by kernel_rfl
theorem ulen_98 : ((#[98] : Array TypeId)[0]?).bind Try.prog.underlying = some (.slice (Try.prog.elem ((#[98] : Array TypeId).getD 0 0))) := by kernel_rfl
theorem elt_98 : elt Try.prog 98 = some (108, 1, 8) := by kernel_rfl
def dF (A : Option Addr) (v : Nat) : Res := sliceR 1 A (digits v).length (U (digits v))
abbrev lF (A : Option Addr) (l : List Nat) : Res := sliceR 1 A l.length (U l)
set_option maxRecDepth 100000 in
set_option maxHeartbeats 1000000 in
theorem right_c {A : Option Addr} {n c : Nat} {l : List Nat} (hn : n = l.length) (hw : W64 l) (hl : l.length ≤ 1000000) (hc : l.length ≤ c) : Tri Try.prog 98 [.slice A n c] [] [lF A l] (RetF (.slice A (digits (val l)).length c) [dF A (val l)]) := by
 refine Tri_of (N := 21) Try.func98 rfl ent_98 rfl rfl ?_
 intro w0 S0 T0
 show CJ _ _ _ [(0, _)] _ _
 subst hn
 refine CJ_seq ?_
 refine CJ_reg ?_
 refine LJ_y rfl rfl (YJ_assign rfl) ?_
 refine LJ_nil ?_
 refine QJ_then ?_
 refine CJ_seq ?_
 refine CJ_block ?_
 refine CJ_loop (F := fun (k : Nat) => ⟨[(0, .slice A k c)], [], [lF A l]⟩) (I := fun (k : Nat) => k ≤ l.length ∧ val (l.take k) = val l) (m := fun (k : Nat) => k) l.length (μr := []) ⟨Nat.le_refl _, val_take_all (Nat.le_refl _)⟩ (And.intro rfl (trivial)) (List.Perm.refl _) (fun _ h => h) ?_
 rintro k ⟨hk, hv⟩
 show CJ _ _ _ [(0, _)] [] [lF A l]
 refine CJ_seq ?_
 refine CJ_seq ?_
 refine CJ_reg ?_
 refine LJ_y rfl rfl (YJ_move rfl) ?_
 refine LJ_y rfl rfl (YJ_len rfl ulen_98 rfl) ?_
 refine LJ_y rfl rfl (YJ_bin rfl rfl rfl) ?_
 refine LJ_y rfl rfl (YJ_move rfl) ?_
 refine LJ_boolC (fun h6 => ?_) (fun h6 => ?_)
 ·simp only [decide_eq_true_eq] at h6
  refine LJ_y rfl rfl (YJ_move rfl) ?_
  refine LJ_y rfl rfl (YJ_move rfl) ?_
  refine LJ_y rfl rfl (YJ_len rfl ulen_98 rfl) ?_
  refine LJ_y rfl rfl (YJ_bin rfl rfl (iop_sub (by omega))) ?_
  refine LJ_y rfl rfl (YJ_ixFact rfl rfl elt_98 m0 (by decide) (by omega) (by omega) (by omega)) ?_
  refine LJ_y rfl rfl (YJ_loadFact rfl tyi_108 m0 (U_get (by omega))) ?_
  refine LJ_y rfl rfl (YJ_bin rfl rfl rfl) ?_
  refine LJ_y rfl rfl (YJ_pickT rfl rfl) ?_
  refine LJ_nil ?_
  refine QJ_then ?_
  refine CJ_cond rfl (fun h14 => ?_) (fun h14 => ?_)
  ·simp only [decide_eq_true_eq] at h14
   refine CJ_skip ?_
   refine QJ_then ?_
   refine CJ_block ?_
   refine CJ_reg ?_
   refine LJ_y rfl rfl (YJ_move rfl) ?_
   refine LJ_y rfl rfl (YJ_move rfl) ?_
   refine LJ_y rfl rfl (YJ_len rfl ulen_98 rfl) ?_
   refine LJ_y rfl rfl (YJ_bin rfl rfl (iop_sub (by omega))) ?_
   refine LJ_y rfl rfl (YJ_sliceH (m := (k - 1)) rfl rfl elt_98 (by omega) (by omega)) ?_
   refine LJ_y rfl rfl (YJ_assign rfl) ?_
   refine LJ_nil ?_
   refine QJ_in_normal ?_
   refine QJ_round (F := fun (k : Nat) => ⟨[(0, .slice A k c)], [], [lF A l]⟩) (I := fun (k : Nat) => k ≤ l.length ∧ val (l.take k) = val l) (m := fun (k : Nat) => k) (i := k) (k - 1) (μr := []) ⟨by omega, by have h1 := val_take_succ (l := l) (k := k - 1) (by omega); rw [show k - 1 + 1 = k by omega, hv] at h1; rw [show (↑k - 1 : Int).toNat * 1 = k - 1 by omega] at h14; rw [h1, show l.getD (k - 1) 0 = 0 by omega]; simp⟩ (by omega) (And.intro rfl trivial) (List.Perm.refl _) (fun _ h => h)
  ·simp only [decide_eq_false_iff_not] at h14
   refine CJ_exit ?_
   refine QJ_then_exit ?_
   refine QJ_then_exit ?_
   refine QJ_in_exit ?_
   refine QJ_then ?_
   refine CJ_seq ?_
   refine CJ_reg ?_
   refine LJ_y rfl rfl (YJ_move rfl) ?_
   refine LJ_y rfl rfl (YJ_assign rfl) ?_
   refine LJ_nil ?_
   refine QJ_then ?_
   refine CJ_ret ?_
   have e : digits (val l) = l.take k := digits_take hw hk hv (.inr (by rw [show (↑k - 1 : Int).toNat * 1 = k - 1 by omega] at h14; omega))
   have hlen : (digits (val l)).length = k := by rw [e]; simp; omega
   refine QJ_addF (r' := sliceR 1 A k (U (l.take k))) (.head _) (fun w S h => by rw [← U_take]; exact sliceR_take (by omega) w S h) ?_
   refine QJ_fin (.inl rfl) (μ' := []) (μr := _) (φ' := [sliceR 1 A k (U (l.take k))]) (res_tmp rfl rfl) (List.Perm.refl _) (AllIn.sub (And.intro (.head _) trivial)) ?_
   exact ⟨by rw [hlen], rfl, by unfold dF; rw [hlen, e]⟩
 ·simp only [decide_eq_false_iff_not] at h6
  refine LJ_skip rfl rfl ?_
  refine LJ_skip rfl rfl ?_
  refine LJ_skip rfl rfl ?_
  refine LJ_skip rfl rfl ?_
  refine LJ_skip rfl rfl ?_
  refine LJ_skip rfl rfl ?_
  refine LJ_skip rfl rfl ?_
  refine LJ_y rfl rfl (YJ_pickF rfl rfl) ?_
  refine LJ_nil ?_
  refine QJ_then ?_
  refine CJ_condF rfl ?_
  refine CJ_exit ?_
  refine QJ_then_exit ?_
  refine QJ_then_exit ?_
  refine QJ_in_exit ?_
  refine QJ_then ?_
  refine CJ_seq ?_
  refine CJ_reg ?_
  refine LJ_y rfl rfl (YJ_move rfl) ?_
  refine LJ_y rfl rfl (YJ_assign rfl) ?_
  refine LJ_nil ?_
  refine QJ_then ?_
  refine CJ_ret ?_
  have e : digits (val l) = l.take k := digits_take hw hk hv (.inl (by omega))
  have hlen : (digits (val l)).length = k := by rw [e]; simp; omega
  refine QJ_addF (r' := sliceR 1 A k (U (l.take k))) (.head _) (fun w S h => by rw [← U_take]; exact sliceR_take (by omega) w S h) ?_
  refine QJ_fin (.inl rfl) (μ' := []) (μr := _) (φ' := [sliceR 1 A k (U (l.take k))]) (res_tmp rfl rfl) (List.Perm.refl _) (AllIn.sub (And.intro (.head _) trivial)) ?_
  exact ⟨by rw [hlen], rfl, by unfold dF; rw [hlen, e]⟩
end Go.Proofs.Ytbanlhlggkdanaa
namespace Go.Proofs.Ytbanlhlggkdanaa
open Go.RowKit
theorem ent_105 : Enter Try.prog 105 = true := by kernel_rfl
theorem mix : Try.prog.follows .mixedOrders = true := by kernel_rfl
theorem ent_103 : Enter Try.prog 103 = true := by kernel_rfl
theorem add_words {ah al bh bl a b : Int} (h : IsW ah al a) (h' : IsW bh bl b) : IsW ((ah + bh + (al + bl + 0) / 18446744073709551616) % 18446744073709551616) ((al + bl + 0) % 18446744073709551616) (a + b) := by
 unfold IsW at *; omega
theorem sub_words {ah al bh bl a b : Int} (h : IsW ah al a) (h' : IsW bh bl b) : IsW ((ah - bh - -((al - bl - 0) / 18446744073709551616)) % 18446744073709551616) ((al - bl - 0) % 18446744073709551616) (a - b) := by
 unfold IsW at *; omega
theorem RetWo_no {n : Int} (e : ¬ R128 n) : RetWo n (.tuple #[.agg #[.int .u64 0, .int .u64 0], .bool false]) [] [] :=
 ⟨(0, 0), by rw [if_neg e]; exact ⟨rfl, rfl⟩, by rw [decide_eq_false e]; rfl, rfl, rfl⟩
theorem RetWo_yes {n hi lo : Int} (h : IsW hi lo n) (e : R128 n) : RetWo n (.tuple #[.agg #[.int .u64 hi, .int .u64 lo], .bool true]) [] [] :=
 ⟨(hi, lo), by rw [if_pos e]; exact h, by rw [decide_eq_true e]; rfl, rfl, rfl⟩
theorem add_no {ah bh hi lo a b : Int} (h1 : ah / 9223372036854775808 = 1 ↔ a < 0) (h2 : bh / 9223372036854775808 = 1 ↔ b < 0) (h3 : IsW hi lo (a + b)) (ra : R128 a) (rb : R128 b)
  (g1 : ah / 9223372036854775808 = 1 ↔ bh / 9223372036854775808 = 1) (g2 : ¬ (hi / 9223372036854775808 = 1 ↔ ah / 9223372036854775808 = 1)) : ¬ R128 (a + b) := by
 unfold IsW at h3; unfold R128 at *; omega
theorem add_yes {ah bh hi lo a b : Int} (h1 : ah / 9223372036854775808 = 1 ↔ a < 0) (h2 : bh / 9223372036854775808 = 1 ↔ b < 0) (h3 : IsW hi lo (a + b)) (ra : R128 a) (rb : R128 b)
  (g : ¬ (ah / 9223372036854775808 = 1 ↔ bh / 9223372036854775808 = 1) ∨ (hi / 9223372036854775808 = 1 ↔ ah / 9223372036854775808 = 1)) : R128 (a + b) := by
 unfold IsW at h3; unfold R128 at *; omega
theorem sub_no {ah bh hi lo a b : Int} (h1 : ah / 9223372036854775808 = 1 ↔ a < 0) (h2 : bh / 9223372036854775808 = 1 ↔ b < 0) (h3 : IsW hi lo (a - b)) (ra : R128 a) (rb : R128 b)
  (g1 : ¬ (ah / 9223372036854775808 = 1 ↔ bh / 9223372036854775808 = 1)) (g2 : ¬ (hi / 9223372036854775808 = 1 ↔ ah / 9223372036854775808 = 1)) : ¬ R128 (a - b) := by
 unfold IsW at h3; unfold R128 at *; omega
theorem sub_yes {ah bh hi lo a b : Int} (h1 : ah / 9223372036854775808 = 1 ↔ a < 0) (h2 : bh / 9223372036854775808 = 1 ↔ b < 0) (h3 : IsW hi lo (a - b)) (ra : R128 a) (rb : R128 b)
  (g : (ah / 9223372036854775808 = 1 ↔ bh / 9223372036854775808 = 1) ∨ (hi / 9223372036854775808 = 1 ↔ ah / 9223372036854775808 = 1)) : R128 (a - b) := by
 unfold IsW at h3; unfold R128 at *; omega
set_option maxRecDepth 100000 in
set_option maxHeartbeats 1000000 in
theorem wadd_c {ah al bh bl a b : Int} (h : IsW ah al a) (h' : IsW bh bl b) (ra : R128 a) (rb : R128 b) : Tri Try.prog 105 [.agg #[.int .u64 ah, .int .u64 al], .agg #[.int .u64 bh, .int .u64 bl]] [] [] (RetWo (a + b)) := by
 refine Tri_of (N := 45) Try.func105 rfl ent_105 rfl rfl ?_
 intro w0 S0 T0
 show CJ _ _ _ [(0, _), (1, _)] _ _
 have hb := h.b
 obtain ⟨hb1, hb2, hb3, hb4⟩ := hb
 have hc := h'.b
 obtain ⟨hc1, hc2, hc3, hc4⟩ := hc
 have g1 := h.neg ra
 have g2 := h'.neg rb
 have g3 := add_words h h'
 refine CJ_seq ?_
 refine CJ_reg ?_
 refine LJ_box (cs := #[_, _]) rfl rfl rfl rfl ?_
 intro b1
 refine LJ_box (cs := #[_, _]) rfl rfl rfl rfl ?_
 intro b2
 refine LJ_alloc (cs := #[_, _]) rfl rfl zer_110 rfl ?_
 intro b3
 refine LJ_y rfl rfl (YJ_assign rfl) ?_
 refine LJ_nil ?_
 refine QJ_then ?_
 refine CJ_seq ?_
 refine CJ_reg ?_
 refine LJ_y rfl rfl (YJ_fieldOwn rfl fld_110_1 rfl) ?_
 refine LJ_y rfl rfl (YJ_loadL rfl tyi_108 m2 rfl) ?_
 refine LJ_y rfl rfl (YJ_fieldOwn rfl fld_110_1 rfl) ?_
 refine LJ_y rfl rfl (YJ_loadL rfl tyi_108 m1 rfl) ?_
 refine LJ_y rfl rfl (YJ_ext rfl rfl (fun w => add64_run _ _ _ (by omega) (by omega) (by omega) (by omega) w)) ?_
 refine LJ_y rfl rfl (YJ_move rfl) ?_
 refine LJ_y rfl rfl (YJ_extract rfl rfl) ?_
 refine LJ_y rfl rfl (YJ_extract rfl rfl) ?_
 refine LJ_y rfl rfl (YJ_assign rfl) ?_
 refine LJ_y rfl rfl (YJ_assign rfl) ?_
 refine LJ_nil ?_
 refine QJ_then ?_
 refine CJ_seq ?_
 refine CJ_reg ?_
 refine LJ_y rfl rfl (YJ_fieldOwn rfl fld_110_0 rfl) ?_
 refine LJ_y rfl rfl (YJ_loadL rfl tyi_108 m2 rfl) ?_
 refine LJ_y rfl rfl (YJ_fieldOwn rfl fld_110_0 rfl) ?_
 refine LJ_y rfl rfl (YJ_loadL rfl tyi_108 m1 rfl) ?_
 refine LJ_y rfl rfl (YJ_move rfl) ?_
 refine LJ_y rfl rfl (YJ_ext rfl rfl (fun w => add64_run _ _ _ (by omega) (by omega) (by omega) (by omega) w)) ?_
 refine LJ_y rfl rfl (YJ_move rfl) ?_
 refine LJ_y rfl rfl (YJ_extract rfl rfl) ?_
 refine LJ_y rfl rfl (YJ_extract rfl rfl) ?_
 refine LJ_y rfl rfl (YJ_assign rfl) ?_
 refine LJ_y rfl rfl (YJ_assign rfl) ?_
 refine LJ_nil ?_
 refine QJ_then ?_
 refine CJ_seq ?_
 refine CJ_reg ?_
 refine LJ_y rfl rfl (YJ_move rfl) ?_
 refine LJ_y rfl rfl (YJ_move rfl) ?_
 refine LJ_y rfl rfl (YJ_build1 (cs := [_, _]) lay_110 rfl rfl rfl) ?_
 refine LJ_alloc (cs := #[_, _]) rfl rfl zer_110 rfl ?_
 intro b4
 refine LJ_store (cs' := #[_, _]) (μ' := [_, _, _, _]) 0 rfl rfl rfl rfl tyi_110 rfl (Nat.le_of_ble_eq_true rfl) rfl rfl rfl ?_
 refine LJ_nil ?_
 refine QJ_then ?_
 refine CJ_seq ?_
 refine CJ_seq ?_
 refine CJ_regD mix (by kernel_rfl) (fun _ _ _ _ _ h => h) _ _ (fun _ h => h) (fun _ h => h) ?_
 refine AJ_y 0 rfl (by kernel_rfl) (by kernel_rfl) rfl rfl (YJ_loadN (vs := [_, _]) rfl tyi_110 m3 rfl rfl) ?_
 refine AJ_y 2 rfl (by kernel_rfl) (by kernel_rfl) rfl rfl (YJ_loadN (vs := [_, _]) rfl tyi_110 m2 rfl rfl) ?_
 refine AJ_call0 1 rfl (by kernel_rfl) rfl rfl rfl rfl rfl (minus_c _ _) (AllIn.sub (by first | exact trivial | exact And.intro (by repeat first | exact .head _ | apply List.Mem.tail) trivial | exact And.intro (by repeat first | exact .head _ | apply List.Mem.tail) (And.intro (by repeat first | exact .head _ | apply List.Mem.tail) trivial))) ?_
 refine AJ_call0 3 rfl (by kernel_rfl) rfl rfl rfl rfl rfl (minus_c _ _) (AllIn.sub (by first | exact trivial | exact And.intro (by repeat first | exact .head _ | apply List.Mem.tail) trivial | exact And.intro (by repeat first | exact .head _ | apply List.Mem.tail) (And.intro (by repeat first | exact .head _ | apply List.Mem.tail) trivial))) ?_
 refine AJ_y 4 rfl (by kernel_rfl) (by kernel_rfl) rfl rfl (YJ_eqb rfl rfl ubool_4) ?_
 refine AJ_y 5 rfl (by kernel_rfl) (by kernel_rfl) rfl rfl (YJ_move rfl) ?_
 refine AJ_boolC (fun h36 => ?_) (fun h36 => ?_)
 ·simp only [beq_iff_eq, decide_eq_decide] at h36
  refine AJ_y 6 rfl (by kernel_rfl) (by kernel_rfl) rfl rfl (YJ_loadN (vs := [_, _]) rfl tyi_110 m0 rfl rfl) ?_
  refine AJ_y 8 rfl (by kernel_rfl) (by kernel_rfl) rfl rfl (YJ_loadN (vs := [_, _]) rfl tyi_110 m3 rfl rfl) ?_
  refine AJ_call0 7 rfl (by kernel_rfl) rfl rfl rfl rfl rfl (minus_c _ _) (AllIn.sub (by first | exact trivial | exact And.intro (by repeat first | exact .head _ | apply List.Mem.tail) trivial | exact And.intro (by repeat first | exact .head _ | apply List.Mem.tail) (And.intro (by repeat first | exact .head _ | apply List.Mem.tail) trivial))) ?_
  refine AJ_call0 9 rfl (by kernel_rfl) rfl rfl rfl rfl rfl (minus_c _ _) (AllIn.sub (by first | exact trivial | exact And.intro (by repeat first | exact .head _ | apply List.Mem.tail) trivial | exact And.intro (by repeat first | exact .head _ | apply List.Mem.tail) (And.intro (by repeat first | exact .head _ | apply List.Mem.tail) trivial))) ?_
  refine AJ_y 10 rfl (by kernel_rfl) (by kernel_rfl) rfl rfl (YJ_neb rfl rfl ubool_4) ?_
  refine AJ_y 11 rfl (by kernel_rfl) (by kernel_rfl) rfl rfl (YJ_pickT rfl rfl) ?_
  refine AJ_done (by kernel_rfl) ?_
  refine QJ_then ?_
  refine CJ_cond rfl (fun h42 => ?_) (fun h42 => ?_)
  ·simp only [bne_iff_ne, ne_eq, decide_eq_decide] at h42
   refine CJ_seq ?_
   refine CJ_reg ?_
   refine LJ_y rfl rfl (YJ_build1 (cs := [_, _]) lay_110 rfl rfl rfl) ?_
   refine LJ_store (cs' := #[_, _]) (μ' := [_, _, _, _]) 1 rfl rfl rfl rfl tyi_110 rfl (Nat.le_of_ble_eq_true rfl) rfl rfl rfl ?_
   refine LJ_y rfl rfl (YJ_assign rfl) ?_
   refine LJ_nil ?_
   refine QJ_then ?_
   refine CJ_ret ?_
   refine QJ_then_ret ?_
   refine QJ_fin (.inl rfl) (μ' := []) (μr := _) (φ' := []) (res_cell_tmp (vs := [_, _]) rfl rfl m1 tyi_110 rfl rfl) (List.Perm.refl _) (fun _ h => nomatch h) ?_
   exact RetWo_no (add_no g1 g2 g3 ra rb h36 h42)
  ·simp only [bne_eq_false_iff_eq, decide_eq_decide] at h42
   refine CJ_skip ?_
   refine QJ_then ?_
   refine CJ_seq ?_
   refine CJ_reg ?_
   refine LJ_y rfl rfl (YJ_loadN (vs := [_, _]) rfl tyi_110 m0 rfl rfl) ?_
   refine LJ_store (cs' := #[_, _]) (μ' := [_, _, _, _]) 1 rfl rfl rfl rfl tyi_110 rfl (Nat.le_of_ble_eq_true rfl) rfl rfl rfl ?_
   refine LJ_y rfl rfl (YJ_assign rfl) ?_
   refine LJ_nil ?_
   refine QJ_then ?_
   refine CJ_ret ?_
   refine QJ_fin (.inl rfl) (μ' := []) (μr := _) (φ' := []) (res_cell_tmp (vs := [_, _]) rfl rfl m1 tyi_110 rfl rfl) (List.Perm.refl _) (fun _ h => nomatch h) ?_
   exact RetWo_yes g3 (add_yes g1 g2 g3 ra rb (.inr h42))
 ·simp only [beq_eq_false_iff_ne, ne_eq, decide_eq_decide] at h36
  refine AJ_skip 6 rfl (by kernel_rfl) (by kernel_rfl) rfl rfl ?_
  refine AJ_skip 8 rfl (by kernel_rfl) (by kernel_rfl) rfl rfl ?_
  refine AJ_skip 7 rfl (by kernel_rfl) (by kernel_rfl) rfl rfl ?_
  refine AJ_skip 9 rfl (by kernel_rfl) (by kernel_rfl) rfl rfl ?_
  refine AJ_skip 10 rfl (by kernel_rfl) (by kernel_rfl) rfl rfl ?_
  refine AJ_y 11 rfl (by kernel_rfl) (by kernel_rfl) rfl rfl (YJ_pickF rfl rfl) ?_
  refine AJ_done (by kernel_rfl) ?_
  refine QJ_then ?_
  refine CJ_condF rfl ?_
  refine CJ_skip ?_
  refine QJ_then ?_
  refine CJ_seq ?_
  refine CJ_reg ?_
  refine LJ_y rfl rfl (YJ_loadN (vs := [_, _]) rfl tyi_110 m0 rfl rfl) ?_
  refine LJ_store (cs' := #[_, _]) (μ' := [_, _, _, _]) 1 rfl rfl rfl rfl tyi_110 rfl (Nat.le_of_ble_eq_true rfl) rfl rfl rfl ?_
  refine LJ_y rfl rfl (YJ_assign rfl) ?_
  refine LJ_nil ?_
  refine QJ_then ?_
  refine CJ_ret ?_
  refine QJ_fin (.inl rfl) (μ' := []) (μr := _) (φ' := []) (res_cell_tmp (vs := [_, _]) rfl rfl m1 tyi_110 rfl rfl) (List.Perm.refl _) (fun _ h => nomatch h) ?_
  exact RetWo_yes g3 (add_yes g1 g2 g3 ra rb (.inl h36))
set_option maxRecDepth 100000 in
set_option maxHeartbeats 1000000 in
theorem wsub_c {ah al bh bl a b : Int} (h : IsW ah al a) (h' : IsW bh bl b) (ra : R128 a) (rb : R128 b) : Tri Try.prog 103 [.agg #[.int .u64 ah, .int .u64 al], .agg #[.int .u64 bh, .int .u64 bl]] [] [] (RetWo (a - b)) := by
 refine Tri_of (N := 45) Try.func103 rfl ent_103 rfl rfl ?_
 intro w0 S0 T0
 show CJ _ _ _ [(0, _), (1, _)] _ _
 have hb := h.b
 obtain ⟨hb1, hb2, hb3, hb4⟩ := hb
 have hc := h'.b
 obtain ⟨hc1, hc2, hc3, hc4⟩ := hc
 have g1 := h.neg ra
 have g2 := h'.neg rb
 have g3 := sub_words h h'
 refine CJ_seq ?_
 refine CJ_reg ?_
 refine LJ_box (cs := #[_, _]) rfl rfl rfl rfl ?_
 intro b1
 refine LJ_box (cs := #[_, _]) rfl rfl rfl rfl ?_
 intro b2
 refine LJ_alloc (cs := #[_, _]) rfl rfl zer_110 rfl ?_
 intro b3
 refine LJ_y rfl rfl (YJ_assign rfl) ?_
 refine LJ_nil ?_
 refine QJ_then ?_
 refine CJ_seq ?_
 refine CJ_reg ?_
 refine LJ_y rfl rfl (YJ_fieldOwn rfl fld_110_1 rfl) ?_
 refine LJ_y rfl rfl (YJ_loadL rfl tyi_108 m2 rfl) ?_
 refine LJ_y rfl rfl (YJ_fieldOwn rfl fld_110_1 rfl) ?_
 refine LJ_y rfl rfl (YJ_loadL rfl tyi_108 m1 rfl) ?_
 refine LJ_y rfl rfl (YJ_ext rfl rfl (fun w => sub64_run' _ _ _ (by omega) (by omega) (by omega) (by omega) (by omega) (by omega) w)) ?_
 refine LJ_y rfl rfl (YJ_move rfl) ?_
 refine LJ_y rfl rfl (YJ_extract rfl rfl) ?_
 refine LJ_y rfl rfl (YJ_extract rfl rfl) ?_
 refine LJ_y rfl rfl (YJ_assign rfl) ?_
 refine LJ_y rfl rfl (YJ_assign rfl) ?_
 refine LJ_nil ?_
 refine QJ_then ?_
 refine CJ_seq ?_
 refine CJ_reg ?_
 refine LJ_y rfl rfl (YJ_fieldOwn rfl fld_110_0 rfl) ?_
 refine LJ_y rfl rfl (YJ_loadL rfl tyi_108 m2 rfl) ?_
 refine LJ_y rfl rfl (YJ_fieldOwn rfl fld_110_0 rfl) ?_
 refine LJ_y rfl rfl (YJ_loadL rfl tyi_108 m1 rfl) ?_
 refine LJ_y rfl rfl (YJ_move rfl) ?_
 refine LJ_y rfl rfl (YJ_ext rfl rfl (fun w => sub64_run' _ _ _ (by omega) (by omega) (by omega) (by omega) (by omega) (by omega) w)) ?_
 refine LJ_y rfl rfl (YJ_move rfl) ?_
 refine LJ_y rfl rfl (YJ_extract rfl rfl) ?_
 refine LJ_y rfl rfl (YJ_extract rfl rfl) ?_
 refine LJ_y rfl rfl (YJ_assign rfl) ?_
 refine LJ_y rfl rfl (YJ_assign rfl) ?_
 refine LJ_nil ?_
 refine QJ_then ?_
 refine CJ_seq ?_
 refine CJ_reg ?_
 refine LJ_y rfl rfl (YJ_move rfl) ?_
 refine LJ_y rfl rfl (YJ_move rfl) ?_
 refine LJ_y rfl rfl (YJ_build1 (cs := [_, _]) lay_110 rfl rfl rfl) ?_
 refine LJ_alloc (cs := #[_, _]) rfl rfl zer_110 rfl ?_
 intro b4
 refine LJ_store (cs' := #[_, _]) (μ' := [_, _, _, _]) 0 rfl rfl rfl rfl tyi_110 rfl (Nat.le_of_ble_eq_true rfl) rfl rfl rfl ?_
 refine LJ_nil ?_
 refine QJ_then ?_
 refine CJ_seq ?_
 refine CJ_seq ?_
 refine CJ_regD mix (by kernel_rfl) (fun _ _ _ _ _ h => h) _ _ (fun _ h => h) (fun _ h => h) ?_
 refine AJ_y 0 rfl (by kernel_rfl) (by kernel_rfl) rfl rfl (YJ_loadN (vs := [_, _]) rfl tyi_110 m3 rfl rfl) ?_
 refine AJ_y 2 rfl (by kernel_rfl) (by kernel_rfl) rfl rfl (YJ_loadN (vs := [_, _]) rfl tyi_110 m2 rfl rfl) ?_
 refine AJ_call0 1 rfl (by kernel_rfl) rfl rfl rfl rfl rfl (minus_c _ _) (AllIn.sub (by first | exact trivial | exact And.intro (by repeat first | exact .head _ | apply List.Mem.tail) trivial | exact And.intro (by repeat first | exact .head _ | apply List.Mem.tail) (And.intro (by repeat first | exact .head _ | apply List.Mem.tail) trivial))) ?_
 refine AJ_call0 3 rfl (by kernel_rfl) rfl rfl rfl rfl rfl (minus_c _ _) (AllIn.sub (by first | exact trivial | exact And.intro (by repeat first | exact .head _ | apply List.Mem.tail) trivial | exact And.intro (by repeat first | exact .head _ | apply List.Mem.tail) (And.intro (by repeat first | exact .head _ | apply List.Mem.tail) trivial))) ?_
 refine AJ_y 4 rfl (by kernel_rfl) (by kernel_rfl) rfl rfl (YJ_neb rfl rfl ubool_4) ?_
 refine AJ_y 5 rfl (by kernel_rfl) (by kernel_rfl) rfl rfl (YJ_move rfl) ?_
 refine AJ_boolC (fun h36 => ?_) (fun h36 => ?_)
 ·simp only [bne_iff_ne, ne_eq, decide_eq_decide] at h36
  refine AJ_y 6 rfl (by kernel_rfl) (by kernel_rfl) rfl rfl (YJ_loadN (vs := [_, _]) rfl tyi_110 m0 rfl rfl) ?_
  refine AJ_y 8 rfl (by kernel_rfl) (by kernel_rfl) rfl rfl (YJ_loadN (vs := [_, _]) rfl tyi_110 m3 rfl rfl) ?_
  refine AJ_call0 7 rfl (by kernel_rfl) rfl rfl rfl rfl rfl (minus_c _ _) (AllIn.sub (by first | exact trivial | exact And.intro (by repeat first | exact .head _ | apply List.Mem.tail) trivial | exact And.intro (by repeat first | exact .head _ | apply List.Mem.tail) (And.intro (by repeat first | exact .head _ | apply List.Mem.tail) trivial))) ?_
  refine AJ_call0 9 rfl (by kernel_rfl) rfl rfl rfl rfl rfl (minus_c _ _) (AllIn.sub (by first | exact trivial | exact And.intro (by repeat first | exact .head _ | apply List.Mem.tail) trivial | exact And.intro (by repeat first | exact .head _ | apply List.Mem.tail) (And.intro (by repeat first | exact .head _ | apply List.Mem.tail) trivial))) ?_
  refine AJ_y 10 rfl (by kernel_rfl) (by kernel_rfl) rfl rfl (YJ_neb rfl rfl ubool_4) ?_
  refine AJ_y 11 rfl (by kernel_rfl) (by kernel_rfl) rfl rfl (YJ_pickT rfl rfl) ?_
  refine AJ_done (by kernel_rfl) ?_
  refine QJ_then ?_
  refine CJ_cond rfl (fun h42 => ?_) (fun h42 => ?_)
  ·simp only [bne_iff_ne, ne_eq, decide_eq_decide] at h42
   refine CJ_seq ?_
   refine CJ_reg ?_
   refine LJ_y rfl rfl (YJ_build1 (cs := [_, _]) lay_110 rfl rfl rfl) ?_
   refine LJ_store (cs' := #[_, _]) (μ' := [_, _, _, _]) 1 rfl rfl rfl rfl tyi_110 rfl (Nat.le_of_ble_eq_true rfl) rfl rfl rfl ?_
   refine LJ_y rfl rfl (YJ_assign rfl) ?_
   refine LJ_nil ?_
   refine QJ_then ?_
   refine CJ_ret ?_
   refine QJ_then_ret ?_
   refine QJ_fin (.inl rfl) (μ' := []) (μr := _) (φ' := []) (res_cell_tmp (vs := [_, _]) rfl rfl m1 tyi_110 rfl rfl) (List.Perm.refl _) (fun _ h => nomatch h) ?_
   exact RetWo_no (sub_no g1 g2 g3 ra rb h36 h42)
  ·simp only [bne_eq_false_iff_eq, decide_eq_decide] at h42
   refine CJ_skip ?_
   refine QJ_then ?_
   refine CJ_seq ?_
   refine CJ_reg ?_
   refine LJ_y rfl rfl (YJ_loadN (vs := [_, _]) rfl tyi_110 m0 rfl rfl) ?_
   refine LJ_store (cs' := #[_, _]) (μ' := [_, _, _, _]) 1 rfl rfl rfl rfl tyi_110 rfl (Nat.le_of_ble_eq_true rfl) rfl rfl rfl ?_
   refine LJ_y rfl rfl (YJ_assign rfl) ?_
   refine LJ_nil ?_
   refine QJ_then ?_
   refine CJ_ret ?_
   refine QJ_fin (.inl rfl) (μ' := []) (μr := _) (φ' := []) (res_cell_tmp (vs := [_, _]) rfl rfl m1 tyi_110 rfl rfl) (List.Perm.refl _) (fun _ h => nomatch h) ?_
   exact RetWo_yes g3 (sub_yes g1 g2 g3 ra rb (.inr h42))
 ·simp only [bne_eq_false_iff_eq, decide_eq_decide] at h36
  refine AJ_skip 6 rfl (by kernel_rfl) (by kernel_rfl) rfl rfl ?_
  refine AJ_skip 8 rfl (by kernel_rfl) (by kernel_rfl) rfl rfl ?_
  refine AJ_skip 7 rfl (by kernel_rfl) (by kernel_rfl) rfl rfl ?_
  refine AJ_skip 9 rfl (by kernel_rfl) (by kernel_rfl) rfl rfl ?_
  refine AJ_skip 10 rfl (by kernel_rfl) (by kernel_rfl) rfl rfl ?_
  refine AJ_y 11 rfl (by kernel_rfl) (by kernel_rfl) rfl rfl (YJ_pickF rfl rfl) ?_
  refine AJ_done (by kernel_rfl) ?_
  refine QJ_then ?_
  refine CJ_condF rfl ?_
  refine CJ_skip ?_
  refine QJ_then ?_
  refine CJ_seq ?_
  refine CJ_reg ?_
  refine LJ_y rfl rfl (YJ_loadN (vs := [_, _]) rfl tyi_110 m0 rfl rfl) ?_
  refine LJ_store (cs' := #[_, _]) (μ' := [_, _, _, _]) 1 rfl rfl rfl rfl tyi_110 rfl (Nat.le_of_ble_eq_true rfl) rfl rfl rfl ?_
  refine LJ_y rfl rfl (YJ_assign rfl) ?_
  refine LJ_nil ?_
  refine QJ_then ?_
  refine CJ_ret ?_
  refine QJ_fin (.inl rfl) (μ' := []) (μr := _) (φ' := []) (res_cell_tmp (vs := [_, _]) rfl rfl m1 tyi_110 rfl rfl) (List.Perm.refl _) (fun _ h => nomatch h) ?_
  exact RetWo_yes g3 (sub_yes g1 g2 g3 ra rb (.inl h36))
end Go.Proofs.Ytbanlhlggkdanaa
namespace Go.Proofs.Ytbanlhlggkdanaa
open Go.RowKit
theorem ent_51 : Enter Try.prog 51 = true := by kernel_rfl
theorem ent_84 : Enter Try.prog 84 = true := by kernel_rfl
def sgn (n : Int) : Int := if n < 0 then -1 else if n = 0 then 0 else 1
theorem sgn_lt {n : Int} (h : n < 0) : sgn n = -1 := if_pos h
theorem sgn_eq {n : Int} (h : n = 0) : sgn n = 0 := by subst h; rfl
theorem sgn_gt {n : Int} (h : 0 < n) : sgn n = 1 := by unfold sgn; rw [if_neg (by omega), if_neg (by omega)]
theorem sgn_cases (n : Int) : (n < 0 ∧ sgn n = -1) ∨ (n = 0 ∧ sgn n = 0) ∨ (0 < n ∧ sgn n = 1) := by
 rcases Int.lt_trichotomy n 0 with h | h | h
 ·exact .inl ⟨h, sgn_lt h⟩
 ·exact .inr (.inl ⟨h, sgn_eq h⟩)
 ·exact .inr (.inr ⟨h, sgn_gt h⟩)
theorem wmul_r {n m : Int} (hn : I64 n) (hm : I64 m) : R128 (n * m) ∧ -85070591730234615865843651857942052864 ≤ n * m ∧ n * m ≤ 85070591730234615865843651857942052864 := by
 have h1 := pabs_b hn hm
 have h2 := pabs n m
 unfold R128
 split at h2 <;> omega
def det (a b c d : Int) : Int := a * d - b * c
set_option maxRecDepth 100000 in
set_option maxHeartbeats 1000000 in
theorem wsign_c {hi lo a : Int} (h : IsW hi lo a) (ra : R128 a) : Tri Try.prog 51 [.agg #[.int .u64 hi, .int .u64 lo]] [] [] (Ret0 (.int .i64 (sgn a))) := by
 refine Tri_of (N := 10) Try.func51 rfl ent_51 rfl rfl ?_
 intro w0 S0 T0
 show CJ _ _ _ [(0, _)] _ _
 refine CJ_seq ?_
 refine CJ_reg ?_
 refine LJ_box (cs := #[_, _]) rfl rfl rfl rfl ?_
 intro b1
 refine LJ_y rfl rfl (YJ_assign rfl) ?_
 refine LJ_nil ?_
 refine QJ_then ?_
 refine CJ_seq ?_
 refine CJ_block ?_
 refine CJ_seq ?_
 refine CJ_reg ?_
 refine LJ_y rfl rfl (YJ_loadN (vs := [_, _]) rfl tyi_110 m0 rfl rfl) ?_
 refine LJ_call0 rfl rfl rfl rfl rfl (minus_c _ _) (AllIn.sub (by first | exact trivial | exact And.intro (by repeat first | exact .head _ | apply List.Mem.tail) trivial | exact And.intro (by repeat first | exact .head _ | apply List.Mem.tail) (And.intro (by repeat first | exact .head _ | apply List.Mem.tail) trivial))) ?_
 refine LJ_y rfl rfl (YJ_assign rfl) ?_
 refine LJ_nil ?_
 refine QJ_then ?_
 refine CJ_cond rfl (fun h3 => ?_) (fun h3 => ?_)
 ·simp only [decide_eq_true_eq] at h3
  refine CJ_seq ?_
  refine CJ_reg ?_
  refine LJ_y rfl rfl (YJ_assign rfl) ?_
  refine LJ_nil ?_
  refine QJ_then ?_
  refine CJ_ret ?_
  refine QJ_in_ret ?_
  refine QJ_then_ret ?_
  refine QJ_fin (.inl rfl) (μ' := []) (μr := _) (φ' := []) (res_tmp rfl rfl) (List.Perm.refl _) (fun _ h => nomatch h) ?_
  exact ⟨congrArg (Value.int .i64) (by unfold IsW at *; unfold R128 at *; first | exact (sgn_lt (by omega)).symm | exact (sgn_eq (by omega)).symm | exact (sgn_gt (by omega)).symm), rfl, rfl⟩
 ·simp only [decide_eq_false_iff_not] at h3
  refine CJ_seq ?_
  refine CJ_reg ?_
  refine LJ_y rfl rfl (YJ_loadN (vs := [_, _]) rfl tyi_110 m0 rfl rfl) ?_
  refine LJ_y rfl rfl (YJ_build1 (cs := [_, _]) lay_110 rfl rfl rfl) ?_
  refine LJ_y rfl rfl (YJ_eqs rfl rfl (fun _ => eqs_eql_110 ..)) ?_
  refine LJ_y rfl rfl (YJ_assign rfl) ?_
  refine LJ_nil ?_
  refine QJ_then ?_
  refine CJ_cond rfl (fun h6 => ?_) (fun h6 => ?_)
  ·simp only [decide_eq_true_eq, Bool.and_eq_true] at h6
   refine CJ_seq ?_
   refine CJ_reg ?_
   refine LJ_y rfl rfl (YJ_assign rfl) ?_
   refine LJ_nil ?_
   refine QJ_then ?_
   refine CJ_ret ?_
   refine QJ_in_ret ?_
   refine QJ_then_ret ?_
   refine QJ_fin (.inl rfl) (μ' := []) (μr := _) (φ' := []) (res_tmp rfl rfl) (List.Perm.refl _) (fun _ h => nomatch h) ?_
   exact ⟨congrArg (Value.int .i64) (by unfold IsW at *; unfold R128 at *; first | exact (sgn_lt (by omega)).symm | exact (sgn_eq (by omega)).symm | exact (sgn_gt (by omega)).symm), rfl, rfl⟩
  ·simp only [decide_eq_false_iff_not, Bool.and_eq_false_iff] at h6
   refine CJ_skip ?_
   refine QJ_in_normal ?_
   refine QJ_then ?_
   refine CJ_seq ?_
   refine CJ_reg ?_
   refine LJ_y rfl rfl (YJ_assign rfl) ?_
   refine LJ_nil ?_
   refine QJ_then ?_
   refine CJ_ret ?_
   refine QJ_fin (.inl rfl) (μ' := []) (μr := _) (φ' := []) (res_tmp rfl rfl) (List.Perm.refl _) (fun _ h => nomatch h) ?_
   exact ⟨congrArg (Value.int .i64) (by unfold IsW at *; unfold R128 at *; first | exact (sgn_lt (by omega)).symm | exact (sgn_eq (by omega)).symm | exact (sgn_gt (by omega)).symm), rfl, rfl⟩
set_option maxRecDepth 100000 in
set_option maxHeartbeats 1000000 in
theorem wdet_c {a b c d : Int} (ha : I64 a) (hb : I64 b) (hc : I64 c) (hd : I64 d) : Tri Try.prog 84 [.int .i64 a, .int .i64 b, .int .i64 c, .int .i64 d] [] [] (RetW (if R128 (det a b c d) then det a b c d else 0)) := by
 refine Tri_of (N := 22) Try.func84 rfl ent_84 rfl rfl ?_
 intro w0 S0 T0
 show CJ _ _ _ [(0, _), (1, _), (2, _), (3, _)] _ _
 have r1 := (wmul_r ha hd).1
 have r2 := (wmul_r hb hc).1
 refine CJ_seq ?_
 refine CJ_reg ?_
 refine LJ_alloc (cs := #[_, _]) rfl rfl zer_110 rfl ?_
 intro b1
 refine LJ_nil ?_
 refine QJ_then ?_
 refine CJ_seq ?_
 refine CJ_reg ?_
 refine LJ_y rfl rfl (YJ_move rfl) ?_
 refine LJ_y rfl rfl (YJ_move rfl) ?_
 refine LJ_callX rfl rfl rfl rfl rfl (wmul_c ha hd) (AllIn.sub (by first | exact trivial | exact And.intro (by repeat first | exact .head _ | apply List.Mem.tail) trivial | exact And.intro (by repeat first | exact .head _ | apply List.Mem.tail) (And.intro (by repeat first | exact .head _ | apply List.Mem.tail) trivial))) ?_
 rintro ⟨_, _⟩ h1
 refine LJ_y rfl rfl (YJ_move rfl) ?_
 refine LJ_y rfl rfl (YJ_move rfl) ?_
 refine LJ_callX rfl rfl rfl rfl rfl (wmul_c hb hc) (AllIn.sub (by first | exact trivial | exact And.intro (by repeat first | exact .head _ | apply List.Mem.tail) trivial | exact And.intro (by repeat first | exact .head _ | apply List.Mem.tail) (And.intro (by repeat first | exact .head _ | apply List.Mem.tail) trivial))) ?_
 rintro ⟨_, _⟩ h2
 refine LJ_callX rfl rfl rfl rfl rfl (wsub_c h1 h2 r1 r2) (AllIn.sub (by first | exact trivial | exact And.intro (by repeat first | exact .head _ | apply List.Mem.tail) trivial | exact And.intro (by repeat first | exact .head _ | apply List.Mem.tail) (And.intro (by repeat first | exact .head _ | apply List.Mem.tail) trivial))) ?_
 rintro ⟨_, _⟩ h3
 refine LJ_y rfl rfl (YJ_move rfl) ?_
 refine LJ_y rfl rfl (YJ_extract rfl rfl) ?_
 refine LJ_y rfl rfl (YJ_extract rfl rfl) ?_
 refine LJ_alloc (cs := #[_, _]) rfl rfl zer_110 rfl ?_
 intro b2
 refine LJ_store (cs' := #[_, _]) (μ' := [_, _]) 0 rfl rfl rfl rfl tyi_110 rfl (Nat.le_of_ble_eq_true rfl) rfl rfl rfl ?_
 refine LJ_y rfl rfl (YJ_assign rfl) ?_
 refine LJ_nil ?_
 refine QJ_then ?_
 refine CJ_seq ?_
 refine CJ_reg ?_
 refine LJ_y rfl rfl (YJ_loadN (vs := [_, _]) rfl tyi_110 m0 rfl rfl) ?_
 refine LJ_store (cs' := #[_, _]) (μ' := [_, _]) 1 rfl rfl rfl rfl tyi_110 rfl (Nat.le_of_ble_eq_true rfl) rfl rfl rfl ?_
 refine LJ_nil ?_
 refine QJ_then ?_
 refine CJ_ret ?_
 refine QJ_fin (.inl rfl) (μ' := []) (μr := _) (φ' := []) (res_cell (vs := [_, _]) rfl rfl m1 tyi_110 rfl) (List.Perm.refl _) (fun _ h => nomatch h) ?_
 exact ⟨(_, _), h3, rfl, rfl, rfl⟩
end Go.Proofs.Ytbanlhlggkdanaa
namespace Go.Proofs.Ytbanlhlggkdanaa
open Go.RowKit
theorem zer_108 : zer Try.prog 108 = some (.int .u64 0) := by kernel_rfl
theorem ent_102 : Enter Try.prog 102 = true := by kernel_rfl
theorem ent_79 : Enter Try.prog 79 = true := by kernel_rfl
abbrev RetM (v : Nat) : Value → List Res → List Res → Prop := RetX (fun x : Option Addr × Nat => (digits v).length ≤ x.2) (fun x => .slice x.1 (digits v).length x.2) (fun _ => []) (fun x => [dF x.1 v])
theorem bitLenAux_le : ∀ (f x : Nat), Lib.bitLenAux f x ≤ f
 | 0, _ => Nat.le_refl _
 | f + 1, x => by
  simp only [Lib.bitLenAux]
  split
  ·omega
  ·have := bitLenAux_le f (x / 2); omega
theorem bitLen_le (x : Nat) : Lib.bitLen x ≤ 64 := bitLenAux_le 64 x
theorem bitLen_pos {x : Nat} (h : x ≠ 0) : 1 ≤ Lib.bitLen x := by
 unfold Lib.bitLen
 simp only [Lib.bitLenAux, h, if_false]
 omega
theorem digits_len_zero {v : Nat} : (digits v).length = 0 ↔ v = 0 := by rw [List.length_eq_zero_iff, digits_nil]
theorem digits_top {v : Nat} (h : v ≠ 0) : (digits v).getD ((digits v).length - 1) 0 ≠ 0 := by
 have hne : digits v ≠ [] := fun e => h (digits_nil.1 e)
 have hl : (digits v).length ≠ 0 := fun e => h (digits_len_zero.1 e)
 have key : ∀ (n : Nat), n ≠ 0 → ∀ h : digits n ≠ [], (digits n).getLast h ≠ 0 := by
  intro n
  induction n using Nat.strongRecOn with
  | _ n ih =>
   intro hn hh
   by_cases h0 : n / BB = 0
   ·have e : digits n = [n % BB] := by rw [digits_pos hn, h0, digits_zero]
    simp only [e, List.getLast_singleton]
    have := Nat.mod_add_div n BB
    rw [h0] at this
    simp at this
    omega
   ·have e : digits n = (n % BB) :: digits (n / BB) := digits_pos hn
    have hn2 : digits (n / BB) ≠ [] := fun e => h0 (digits_nil.1 e)
    have h3 := ih _ (Nat.div_lt_self (Nat.pos_of_ne_zero hn) (by decide)) h0 hn2
    simp only [e, List.getLast_cons hn2]
    exact h3
 have h4 := key v h hne
 rw [List.getLast_eq_getElem] at h4
 rw [List.getD, List.getElem?_eq_getElem (by omega)]
 exact h4
theorem U_get' {l : List Nat} {j k : Nat} (h : j = k) (hk : k < l.length) : (U l)[j]? = some (.int .u64 ((l.getD k 0 : Nat) : Int)) := by subst h; exact U_get hk
theorem len_top {v c : Nat} : ∀ (r : Int), r = 64 * (((digits v).length : Int) - 1) + (Lib.bitLen c : Int) → c = (digits v).getD ((digits v).length - 1) 0 → (digits v).length ≠ 0 → (r = 0 ↔ v = 0) ∧ 0 ≤ r := by
 rintro r rfl hc hl
 have hv : v ≠ 0 := fun e => hl (digits_len_zero.2 e)
 have := digits_top hv
 have hb := bitLen_pos (x := c) (by omega)
 omega
set_option maxRecDepth 100000 in
set_option maxHeartbeats 1000000 in
theorem mlen_c {A : Option Addr} {n c : Nat} {l : List Nat} (hn : n = l.length) (hw : W64 l) (hl : l.length ≤ 1000000) (hc : l.length ≤ c) : Tri Try.prog 102 [.slice A n c] [] [lF A l] (RetX (fun r : Int => (r = 0 ↔ val l = 0) ∧ 0 ≤ r) (fun r => .int .i64 r) (fun _ => []) (fun _ => [])) := by
 refine Tri_of (N := 20) Try.func102 rfl ent_102 rfl rfl ?_
 intro w0 S0 T0
 show CJ _ _ _ [(0, _)] _ _
 subst hn
 have hd : (digits (val l)).length ≤ 1000000 := Nat.le_trans (digits_len (val_lt hw)) hl
 refine CJ_seq ?_
 refine CJ_reg ?_
 refine LJ_y rfl rfl (YJ_assign rfl) ?_
 refine LJ_nil ?_
 refine QJ_then ?_
 refine CJ_seq ?_
 refine CJ_reg ?_
 refine LJ_y rfl rfl (YJ_move rfl) ?_
 refine LJ_callF rfl rfl rfl rfl rfl (right_c rfl (by assumption) (by omega) (by omega)) (AllIn.sub (by first | exact trivial | exact And.intro m0 trivial | exact And.intro (by repeat first | exact .head _ | apply List.Mem.tail) (And.intro (by repeat first | exact .head _ | apply List.Mem.tail) trivial))) ?_
 simp only [List.cons_append, List.nil_append]
 refine LJ_y rfl rfl (YJ_assign rfl) ?_
 refine LJ_nil ?_
 refine QJ_then ?_
 refine CJ_seq ?_
 refine CJ_seq ?_
 refine CJ_reg ?_
 refine LJ_y rfl rfl (YJ_move rfl) ?_
 refine LJ_y rfl rfl (YJ_len rfl ulen_98 rfl) ?_
 refine LJ_y rfl rfl (YJ_bin rfl rfl rfl) ?_
 refine LJ_nil ?_
 refine QJ_then ?_
 refine CJ_cond rfl (fun h7 => ?_) (fun h7 => ?_)
 ·simp only [decide_eq_true_eq] at h7
  refine CJ_seq ?_
  refine CJ_reg ?_
  refine LJ_y rfl rfl (YJ_assign rfl) ?_
  refine LJ_nil ?_
  refine QJ_then ?_
  refine CJ_ret ?_
  refine QJ_then_ret ?_
  refine QJ_fin (.inl rfl) (μ' := []) (μr := _) (φ' := []) (res_tmp rfl rfl) (List.Perm.refl _) (fun _ h => nomatch h) ?_
  exact ⟨0, ⟨⟨fun _ => digits_len_zero.1 (by omega), fun _ => rfl⟩, by omega⟩, rfl, rfl, rfl⟩
 ·simp only [decide_eq_false_iff_not] at h7
  refine CJ_skip ?_
  refine QJ_then ?_
  refine CJ_seq ?_
  refine CJ_reg ?_
  refine LJ_y rfl rfl (YJ_move rfl) ?_
  refine LJ_y rfl rfl (YJ_len rfl ulen_98 rfl) ?_
  refine LJ_y rfl rfl (YJ_bin rfl rfl (iop_sub (by omega))) ?_
  refine LJ_y rfl rfl (YJ_bin rfl rfl (iop_mul (by omega))) ?_
  refine LJ_y rfl rfl (YJ_move rfl) ?_
  refine LJ_y rfl rfl (YJ_move rfl) ?_
  refine LJ_y rfl rfl (YJ_len rfl ulen_98 rfl) ?_
  refine LJ_y rfl rfl (YJ_bin rfl rfl (iop_sub (by omega))) ?_
  refine LJ_y rfl rfl (YJ_ixFact rfl rfl elt_98 m0 (by decide) (by omega) (by omega) (by omega)) ?_
  refine LJ_y rfl rfl (YJ_loadFact (xs := U (digits (val l))) rfl tyi_108 (.head _) (U_get' (k := (digits (val l)).length - 1) (by omega) (by omega))) ?_
  refine LJ_call0 rfl rfl rfl rfl rfl (len64_c _ (by omega) (by have := (digits_w (val l)).getD ((digits (val l)).length - 1); unfold BB at this; omega)) (AllIn.sub (by first | exact trivial | exact And.intro (by repeat first | exact .head _ | apply List.Mem.tail) trivial | exact And.intro (by repeat first | exact .head _ | apply List.Mem.tail) (And.intro (by repeat first | exact .head _ | apply List.Mem.tail) trivial))) ?_
  refine LJ_y rfl rfl (YJ_bin rfl rfl (iop_add (by have := bitLen_le ((((digits (val l)).getD ((digits (val l)).length - 1) 0 : Nat) : Int)).toNat; omega))) ?_
  refine LJ_y rfl rfl (YJ_assign rfl) ?_
  refine LJ_nil ?_
  refine QJ_then ?_
  refine CJ_ret ?_
  refine QJ_fin (.inl rfl) (μ' := []) (μr := _) (φ' := []) (res_tmp rfl rfl) (List.Perm.refl _) (fun _ h => nomatch h) ?_
  exact ⟨_, len_top _ rfl (by omega) (by omega), rfl, rfl, rfl⟩
theorem drop_step {l r : List Nat} {k : Nat} (h : k < l.length) (hr : k < r.length) (hd : l.drop (k + 1) = r.drop (k + 1)) (he : l.getD k 0 = r.getD k 0) : l.drop k = r.drop k := by
 rw [List.drop_eq_getElem_cons h, List.drop_eq_getElem_cons hr, hd]
 rw [List.getD, List.getD, List.getElem?_eq_getElem h, List.getElem?_eq_getElem hr] at he
 have he' : l[k] = r[k] := he
 rw [he']
theorem cmp_len_lt {a b : Nat} (h : (digits a).length < (digits b).length) : (a : Int) - b < 0 := by have := digits_len_lt h; omega
theorem cmp_at_lt {a b k : Nat} (hlen : (digits a).length = (digits b).length) (hk : k < (digits a).length) (he : (digits a).drop (k + 1) = (digits b).drop (k + 1)) (hlt : (digits a).getD k 0 < (digits b).getD k 0) : (a : Int) - b < 0 := by
 have := val_cmp_lt (digits_w a) hlen hk he hlt
 rw [val_digits, val_digits] at this
 omega
theorem cmp_eq {a b : Nat} (he : (digits a).drop 0 = (digits b).drop 0) : (a : Int) - b = 0 := by
 simp only [List.drop_zero] at he
 have := congrArg val he
 rw [val_digits, val_digits] at this
 omega
set_option maxRecDepth 100000 in
set_option maxHeartbeats 1000000 in
theorem mcmp_c {A A' : Option Addr} {n m c c' : Nat} {l r : List Nat} (hn : n = l.length) (hm : m = r.length) (hw : W64 l) (hw' : W64 r) (hl : l.length ≤ 1000000) (hl' : r.length ≤ 1000000) (hc : l.length ≤ c) (hc' : r.length ≤ c') : Tri Try.prog 79 [.slice A n c, .slice A' m c'] [] [lF A l, lF A' r] (Ret0 (.int .i64 (sgn ((val l : Int) - (val r : Int))))) := by
 refine Tri_of (N := 45) Try.func79 rfl ent_79 rfl rfl ?_
 intro w0 S0 T0
 show CJ _ _ _ [(0, _), (1, _)] _ _
 subst hn
 subst hm
 have hd : (digits (val l)).length ≤ 1000000 := Nat.le_trans (digits_len (val_lt hw)) hl
 have hd' : (digits (val r)).length ≤ 1000000 := Nat.le_trans (digits_len (val_lt hw')) hl'
 refine CJ_seq ?_
 refine CJ_reg ?_
 refine LJ_y rfl rfl (YJ_assign rfl) ?_
 refine LJ_nil ?_
 refine QJ_then ?_
 refine CJ_seq ?_
 refine CJ_reg ?_
 refine LJ_y rfl rfl (YJ_move rfl) ?_
 refine LJ_callF rfl rfl rfl rfl rfl (right_c rfl hw hl hc) (AllIn.sub (by first | exact trivial | exact And.intro m0 trivial | exact And.intro (by repeat first | exact .head _ | apply List.Mem.tail) (And.intro (by repeat first | exact .head _ | apply List.Mem.tail) trivial))) ?_
 simp only [List.cons_append, List.nil_append]
 refine LJ_y rfl rfl (YJ_move rfl) ?_
 refine LJ_callF rfl rfl rfl rfl rfl (right_c rfl hw' hl' hc') (AllIn.sub (by first | exact trivial | exact And.intro m2 trivial | exact And.intro (by repeat first | exact .head _ | apply List.Mem.tail) (And.intro (by repeat first | exact .head _ | apply List.Mem.tail) trivial))) ?_
 simp only [List.cons_append, List.nil_append]
 refine LJ_y rfl rfl (YJ_assign rfl) ?_
 refine LJ_y rfl rfl (YJ_assign rfl) ?_
 refine LJ_nil ?_
 refine QJ_then ?_
 refine CJ_seq ?_
 refine CJ_seq ?_
 refine CJ_reg ?_
 refine LJ_y rfl rfl (YJ_move rfl) ?_
 refine LJ_y rfl rfl (YJ_len rfl ulen_98 rfl) ?_
 refine LJ_y rfl rfl (YJ_move rfl) ?_
 refine LJ_y rfl rfl (YJ_len rfl ulen_98 rfl) ?_
 refine LJ_y rfl rfl (YJ_bin rfl rfl rfl) ?_
 refine LJ_nil ?_
 refine QJ_then ?_
 refine CJ_cond rfl (fun h14 => ?_) (fun h14 => ?_)
 ·simp only [decide_eq_false_iff_not, Bool.not_eq_true'] at h14
  refine CJ_seq ?_
  refine CJ_seq ?_
  refine CJ_reg ?_
  refine LJ_y rfl rfl (YJ_move rfl) ?_
  refine LJ_y rfl rfl (YJ_len rfl ulen_98 rfl) ?_
  refine LJ_y rfl rfl (YJ_move rfl) ?_
  refine LJ_y rfl rfl (YJ_len rfl ulen_98 rfl) ?_
  refine LJ_y rfl rfl (YJ_bin rfl rfl rfl) ?_
  refine LJ_nil ?_
  refine QJ_then ?_
  refine CJ_cond rfl (fun h19 => ?_) (fun h19 => ?_)
  ·simp only [decide_eq_true_eq] at h19
   refine CJ_seq ?_
   refine CJ_reg ?_
   refine LJ_y rfl rfl (YJ_assign rfl) ?_
   refine LJ_nil ?_
   refine QJ_then ?_
   refine CJ_ret ?_
   refine QJ_then_ret ?_
   refine QJ_then_ret ?_
   refine QJ_fin (.inl rfl) (μ' := []) (μr := _) (φ' := []) (res_tmp rfl rfl) (List.Perm.refl _) (fun _ h => nomatch h) ?_
   exact ⟨congrArg (Value.int .i64) (sgn_lt (cmp_len_lt (by omega))).symm, rfl, rfl⟩
  ·simp only [decide_eq_false_iff_not] at h19
   refine CJ_skip ?_
   refine QJ_then ?_
   refine CJ_seq ?_
   refine CJ_reg ?_
   refine LJ_y rfl rfl (YJ_assign rfl) ?_
   refine LJ_nil ?_
   refine QJ_then ?_
   refine CJ_ret ?_
   refine QJ_then_ret ?_
   refine QJ_fin (.inl rfl) (μ' := []) (μr := _) (φ' := []) (res_tmp rfl rfl) (List.Perm.refl _) (fun _ h => nomatch h) ?_
   exact ⟨congrArg (Value.int .i64) (sgn_gt (by have := cmp_len_lt (a := val r) (b := val l) (by omega); omega)).symm, rfl, rfl⟩
 ·simp only [decide_eq_true_eq, Bool.not_eq_false'] at h14
  have hlen : (digits (val l)).length = (digits (val r)).length := by omega
  refine CJ_skip ?_
  refine QJ_then ?_
  refine CJ_seq ?_
  refine CJ_seq ?_
  refine CJ_reg ?_
  refine LJ_y rfl rfl (YJ_move rfl) ?_
  refine LJ_y rfl rfl (YJ_len rfl ulen_98 rfl) ?_
  refine LJ_y rfl rfl (YJ_bin rfl rfl (iop_sub (by omega))) ?_
  refine LJ_y rfl rfl (YJ_assign rfl) ?_
  refine LJ_nil ?_
  refine QJ_then ?_
  refine CJ_block ?_
  refine CJ_loop (F := fun (k : Nat) => ⟨[(0, .slice A (digits (val l)).length c), (1, .slice A' (digits (val r)).length c'), (5, .int .i64 ((k : Int) - 1))], [], [dF A' (val r), dF A (val l), lF A l, lF A' r]⟩) (I := fun (k : Nat) => k ≤ (digits (val l)).length ∧ (digits (val l)).drop k = (digits (val r)).drop k) (m := fun (k : Nat) => k) (digits (val l)).length (μr := []) ⟨Nat.le_refl _, by rw [List.drop_length, hlen, List.drop_length]⟩ (And.intro rfl (And.intro rfl (And.intro rfl (trivial)))) (List.Perm.refl _) (fun _ h => h) ?_
  rintro k ⟨hk, hdr⟩
  show CJ _ _ _ [(0, _), (1, _), (5, _)] [] [dF A' (val r), dF A (val l), lF A l, lF A' r]
  refine CJ_seq ?_
  refine CJ_seq ?_
  refine CJ_reg ?_
  refine LJ_y rfl rfl (YJ_move rfl) ?_
  refine LJ_y rfl rfl (YJ_bin rfl rfl rfl) ?_
  refine LJ_nil ?_
  refine QJ_then ?_
  refine CJ_cond rfl (fun h24 => ?_) (fun h24 => ?_)
  ·simp only [decide_eq_true_eq] at h24
   refine CJ_skip ?_
   refine QJ_then ?_
   refine CJ_seq ?_
   refine CJ_block ?_
   refine CJ_seq ?_
   refine CJ_regD mix (by kernel_rfl) (fun _ _ _ _ _ h => h) _ _ (fun _ h => h) (fun _ h => h) ?_
   refine AJ_y 0 rfl (by kernel_rfl) (by kernel_rfl) rfl rfl (YJ_move rfl) ?_
   refine AJ_y 1 rfl (by kernel_rfl) (by kernel_rfl) rfl rfl (YJ_move rfl) ?_
   refine AJ_y 2 rfl (by kernel_rfl) (by kernel_rfl) rfl rfl (YJ_ixFact rfl rfl elt_98 m1 (by decide) (by omega) (by omega) (by omega)) ?_
   refine AJ_y 3 rfl (by kernel_rfl) (by kernel_rfl) rfl rfl (YJ_loadFact (xs := U (digits (val l))) rfl tyi_108 (.tail _ (.head _)) (U_get' (k := k - 1) (by omega) (by omega))) ?_
   refine AJ_y 4 rfl (by kernel_rfl) (by kernel_rfl) rfl rfl (YJ_move rfl) ?_
   refine AJ_y 5 rfl (by kernel_rfl) (by kernel_rfl) rfl rfl (YJ_move rfl) ?_
   refine AJ_y 6 rfl (by kernel_rfl) (by kernel_rfl) rfl rfl (YJ_ixFact rfl rfl elt_98 m0 (by decide) (by omega) (by omega) (by omega)) ?_
   refine AJ_y 7 rfl (by kernel_rfl) (by kernel_rfl) rfl rfl (YJ_loadFact (xs := U (digits (val r))) rfl tyi_108 (.head _) (U_get' (k := k - 1) (by omega) (by omega))) ?_
   refine AJ_y 8 rfl (by kernel_rfl) (by kernel_rfl) rfl rfl (YJ_bin rfl rfl rfl) ?_
   refine AJ_done (by kernel_rfl) ?_
   refine QJ_then ?_
   refine CJ_cond rfl (fun h35 => ?_) (fun h35 => ?_)
   ·simp only [decide_eq_false_iff_not, Bool.not_eq_true'] at h35
    refine CJ_seq ?_
    refine CJ_seq ?_
    refine CJ_regD mix (by kernel_rfl) (fun _ _ _ _ _ h => h) _ _ (fun _ h => h) (fun _ h => h) ?_
    refine AJ_y 0 rfl (by kernel_rfl) (by kernel_rfl) rfl rfl (YJ_move rfl) ?_
    refine AJ_y 1 rfl (by kernel_rfl) (by kernel_rfl) rfl rfl (YJ_move rfl) ?_
    refine AJ_y 2 rfl (by kernel_rfl) (by kernel_rfl) rfl rfl (YJ_ixFact rfl rfl elt_98 m1 (by decide) (by omega) (by omega) (by omega)) ?_
    refine AJ_y 3 rfl (by kernel_rfl) (by kernel_rfl) rfl rfl (YJ_loadFact (xs := U (digits (val l))) rfl tyi_108 (.tail _ (.head _)) (U_get' (k := k - 1) (by omega) (by omega))) ?_
    refine AJ_y 4 rfl (by kernel_rfl) (by kernel_rfl) rfl rfl (YJ_move rfl) ?_
    refine AJ_y 5 rfl (by kernel_rfl) (by kernel_rfl) rfl rfl (YJ_move rfl) ?_
    refine AJ_y 6 rfl (by kernel_rfl) (by kernel_rfl) rfl rfl (YJ_ixFact rfl rfl elt_98 m0 (by decide) (by omega) (by omega) (by omega)) ?_
    refine AJ_y 7 rfl (by kernel_rfl) (by kernel_rfl) rfl rfl (YJ_loadFact (xs := U (digits (val r))) rfl tyi_108 (.head _) (U_get' (k := k - 1) (by omega) (by omega))) ?_
    refine AJ_y 8 rfl (by kernel_rfl) (by kernel_rfl) rfl rfl (YJ_bin rfl rfl rfl) ?_
    refine AJ_done (by kernel_rfl) ?_
    refine QJ_then ?_
    refine CJ_cond rfl (fun h44 => ?_) (fun h44 => ?_)
    ·simp only [decide_eq_true_eq] at h44
     refine CJ_seq ?_
     refine CJ_reg ?_
     refine LJ_y rfl rfl (YJ_assign rfl) ?_
     refine LJ_nil ?_
     refine QJ_then ?_
     refine CJ_ret ?_
     refine QJ_then_ret ?_
     refine QJ_in_ret ?_
     refine QJ_then_ret ?_
     refine QJ_then_ret ?_
     refine QJ_in_ret ?_
     refine QJ_then_ret ?_
     refine QJ_fin (.inl rfl) (μ' := []) (μr := _) (φ' := []) (res_tmp rfl rfl) (List.Perm.refl _) (fun _ h => nomatch h) ?_
     exact ⟨congrArg (Value.int .i64) (sgn_lt (cmp_at_lt (k := k - 1) hlen (by omega) (by rw [show k - 1 + 1 = k by omega]; exact hdr) (by omega))).symm, rfl, rfl⟩
    ·simp only [decide_eq_false_iff_not] at h44
     refine CJ_skip ?_
     refine QJ_then ?_
     refine CJ_seq ?_
     refine CJ_reg ?_
     refine LJ_y rfl rfl (YJ_assign rfl) ?_
     refine LJ_nil ?_
     refine QJ_then ?_
     refine CJ_ret ?_
     refine QJ_in_ret ?_
     refine QJ_then_ret ?_
     refine QJ_then_ret ?_
     refine QJ_in_ret ?_
     refine QJ_then_ret ?_
     refine QJ_fin (.inl rfl) (μ' := []) (μr := _) (φ' := []) (res_tmp rfl rfl) (List.Perm.refl _) (fun _ h => nomatch h) ?_
     exact ⟨congrArg (Value.int .i64) (sgn_gt (by have := cmp_at_lt (a := val r) (b := val l) (k := k - 1) hlen.symm (by omega) (by rw [show k - 1 + 1 = k by omega]; exact hdr.symm) (by omega); omega)).symm, rfl, rfl⟩
   ·simp only [decide_eq_true_eq, Bool.not_eq_false'] at h35
    refine CJ_skip ?_
    refine QJ_in_normal ?_
    refine QJ_then ?_
    refine CJ_reg ?_
    refine LJ_y rfl rfl (YJ_move rfl) ?_
    refine LJ_y rfl rfl (YJ_bin rfl rfl (iop_sub (by omega))) ?_
    refine LJ_y rfl rfl (YJ_assign rfl) ?_
    refine LJ_nil ?_
    refine QJ_round (F := fun (k : Nat) => ⟨[(0, .slice A (digits (val l)).length c), (1, .slice A' (digits (val r)).length c'), (5, .int .i64 ((k : Int) - 1))], [], [dF A' (val r), dF A (val l), lF A l, lF A' r]⟩) (I := fun (k : Nat) => k ≤ (digits (val l)).length ∧ (digits (val l)).drop k = (digits (val r)).drop k) (m := fun (k : Nat) => k) (i := k) (k - 1) (μr := []) ⟨by omega, drop_step (by omega) (by omega) (by rw [show k - 1 + 1 = k by omega]; exact hdr) (by omega)⟩ (by omega) (And.intro rfl (And.intro rfl (And.intro (congrArg some (congrArg (Value.int .i64) (by omega))) trivial))) (List.Perm.refl _) (fun _ h => h)
  ·simp only [decide_eq_false_iff_not] at h24
   refine CJ_exit ?_
   refine QJ_then_exit ?_
   refine QJ_then_exit ?_
   refine QJ_in_exit ?_
   refine QJ_then ?_
   refine CJ_seq ?_
   refine CJ_reg ?_
   refine LJ_y rfl rfl (YJ_assign rfl) ?_
   refine LJ_nil ?_
   refine QJ_then ?_
   refine CJ_ret ?_
   refine QJ_fin (.inl rfl) (μ' := []) (μr := _) (φ' := []) (res_tmp rfl rfl) (List.Perm.refl _) (fun _ h => nomatch h) ?_
   exact ⟨congrArg (Value.int .i64) (sgn_eq (cmp_eq (by rw [show k = 0 by omega] at hdr; exact hdr))).symm, rfl, rfl⟩
end Go.Proofs.Ytbanlhlggkdanaa
namespace Go.Proofs.Ytbanlhlggkdanaa
open Go.RowKit
theorem ent_78 : Enter Try.prog 78 = true := by kernel_rfl
theorem U_set {w : List Nat} {off i y : Nat} {x : Int} (h : off = i) (hx : x = (y : Int)) : wr (U w).toArray off (Value.int .u64 x).cells.toList = (U (w.set i y)).toArray := by
 subst h; subst hx
 show (U w).toArray.setIfInBounds off (.int .u64 (y : Int)) = _
 simp [U, List.map_set]
theorem made_U (n : Nat) : madeCells (Value.int .u64 0).cells (n * 1) = (U (List.replicate n 0)).toArray := by
 apply Array.ext
 ·simp [madeCells, U]
 ·intro j h1 h2
  simp [madeCells, U, Value.cells, Nat.mod_one]
theorem getD_ge {l : List Nat} {k : Nat} (h : l.length ≤ k) : l.getD k 0 = 0 := by rw [List.getD, List.getElem?_eq_none h]; rfl
theorem take_set_ge {w : List Nat} {i k x : Nat} (h : k ≤ i) : (w.set i x).take k = w.take k := by
 rw [List.take_set]; exact List.set_eq_of_length_le (by simp; omega)
theorem W64.set {w : List Nat} (h : W64 w) (i : Nat) {x : Nat} (hx : x < BB) : W64 (w.set i x) := fun y hy => by
 rcases List.mem_or_eq_of_mem_set hy with h1 | h1
 ·exact h y h1
 ·subst h1; exact hx
theorem W64.zeros (n : Nat) : W64 (List.replicate n 0) := fun x hx => by rw [List.eq_of_mem_replicate hx]; exact BB_pos
theorem val_set_take {w : List Nat} {i x : Nat} (h : i < w.length) : val ((w.set i x).take (i + 1)) = val (w.take i) + BB ^ i * x := by
 rw [val_take_succ (by simpa using h), take_set_ge (Nat.le_refl _)]
 simp [List.getD, List.getElem?_set_self h]
theorem add_step {l r w : List Nat} {i c : Nat} (hi : i < l.length) (hw : i < w.length) (hv : val (w.take i) + BB ^ i * c = val (l.take i) + val (r.take i)) :
  val ((w.set i ((l.getD i 0 + r.getD i 0 + c) % BB)).take (i + 1)) + BB ^ (i + 1) * ((l.getD i 0 + r.getD i 0 + c) / BB) = val (l.take (i + 1)) + val (r.take (i + 1)) := by
 rw [val_set_take hw, val_take_succ hi]
 have hr : val (r.take (i + 1)) = val (r.take i) + BB ^ i * r.getD i 0 := by
  rcases Nat.lt_or_ge i r.length with h | h
  ·exact val_take_succ h
  ·rw [val_take_all (by omega), val_take_all h, getD_ge h]; simp
 rw [hr]
 have hm := Nat.mod_add_div (l.getD i 0 + r.getD i 0 + c) BB
 have hp : BB ^ i * ((l.getD i 0 + r.getD i 0 + c) % BB) + BB ^ (i + 1) * ((l.getD i 0 + r.getD i 0 + c) / BB) = BB ^ i * (l.getD i 0 + r.getD i 0 + c) := by
  rw [Nat.pow_succ, Nat.mul_assoc, ← Nat.mul_add, hm]
 rw [Nat.mul_add, Nat.mul_add] at hp
 omega
theorem add_last {l r w : List Nat} {c : Nat} (hlen : w.length = l.length + 1) (hr : r.length ≤ l.length) (hv : val (w.take l.length) + BB ^ l.length * c = val (l.take l.length) + val (r.take l.length)) :
  val (w.set l.length c) = val l + val r := by
 have h := val_set_take (w := w) (i := l.length) (x := c) (by omega)
 rw [val_take_all (by simp; omega)] at h
 rw [h, hv, val_take_all (Nat.le_refl _), val_take_all hr]
theorem carry_le {x y c : Nat} (hx : x < BB) (hy : y < BB) (hc : c ≤ 1) : (x + y + c) / BB ≤ 1 := by unfold BB at *; omega
set_option maxRecDepth 100000 in
set_option maxHeartbeats 4000000 in
theorem madd_c {A A' : Option Addr} {n m c c' : Nat} {l r : List Nat} (hn : n = l.length) (hm : m = r.length) (hw : W64 l) (hw' : W64 r) (hl : l.length ≤ 100000) (hl' : r.length ≤ 100000) (hc : l.length ≤ c) (hc' : r.length ≤ c') : Tri Try.prog 78 [.slice A n c, .slice A' m c'] [] [lF A l, lF A' r] (RetM (val l + val r)) := by
 refine Tri_of (N := 54) Try.func78 rfl ent_78 rfl rfl ?_
 intro w0 S0 T0
 show CJ _ _ _ [(0, _), (1, _)] _ _
 subst hn
 subst hm
 refine CJ_seq ?_
 refine CJ_reg ?_
 refine LJ_y rfl rfl (YJ_assign rfl) ?_
 refine LJ_nil ?_
 refine QJ_then ?_
 refine CJ_seq ?_
 refine CJ_seq ?_
 refine CJ_reg ?_
 refine LJ_y rfl rfl (YJ_move rfl) ?_
 refine LJ_y rfl rfl (YJ_len rfl ulen_98 rfl) ?_
 refine LJ_y rfl rfl (YJ_move rfl) ?_
 refine LJ_y rfl rfl (YJ_len rfl ulen_98 rfl) ?_
 refine LJ_y rfl rfl (YJ_bin rfl rfl rfl) ?_
 refine LJ_nil ?_
 refine QJ_then ?_
 refine CJ_cond rfl (fun h14 => ?_) (fun h14 => ?_)
 ·simp only [decide_eq_true_eq] at h14
  refine CJ_reg ?_
  refine LJ_y rfl rfl (YJ_move rfl) ?_
  refine LJ_y rfl rfl (YJ_move rfl) ?_
  refine LJ_y rfl rfl (YJ_assign rfl) ?_
  refine LJ_y rfl rfl (YJ_assign rfl) ?_
  refine LJ_nil ?_
  refine QJ_then ?_
  refine CJ_seq ?_
  refine CJ_reg ?_
  refine LJ_y rfl rfl (YJ_move rfl) ?_
  refine LJ_y rfl rfl (YJ_len rfl ulen_98 rfl) ?_
  refine LJ_y rfl rfl (YJ_bin rfl rfl (iop_add (by omega))) ?_
  refine LJ_make rfl rfl elt_98 zer_108 rfl rfl (n := r.length + 1) (by omega) (by omega) (by omega) ?_
  intro b1
  refine LJ_y rfl rfl (YJ_assign rfl) ?_
  refine LJ_nil ?_
  refine QJ_then ?_
  refine CJ_seq ?_
  refine CJ_reg ?_
  refine LJ_y rfl rfl (YJ_assign rfl) ?_
  refine LJ_nil ?_
  refine QJ_then ?_
  refine CJ_seq ?_
  refine CJ_seq ?_
  refine CJ_reg ?_
  refine LJ_y rfl rfl (YJ_move rfl) ?_
  refine LJ_y rfl rfl (YJ_len rfl ulen_98 rfl) ?_
  refine LJ_y rfl rfl (YJ_move rfl) ?_
  refine LJ_nil ?_
  refine QJ_then ?_
  refine CJ_block ?_
  rw [made_U]
  refine CJ_loop (F := fun (x : Nat × List Nat × Nat) => ⟨[(0, .slice A' r.length c'), (1, .slice A l.length c), (5, .slice (some ⟨b1, 0, none⟩) (r.length + 1) (r.length + 1)), (6, .int .u64 (x.2.2 : Int)), (21, .slice A' r.length c'), (22, .int .i64 (r.length : Int)), (23, .int .i64 (x.1 : Int))], [cellsR b1 (U x.2.1).toArray 108], [lF A l, lF A' r]⟩) (I := fun (x : Nat × List Nat × Nat) => x.1 ≤ r.length ∧ x.2.1.length = r.length + 1 ∧ W64 x.2.1 ∧ x.2.2 ≤ 1 ∧ val (x.2.1.take x.1) + BB ^ x.1 * x.2.2 = val (r.take x.1) + val (l.take x.1)) (m := fun (x : Nat × List Nat × Nat) => r.length - x.1) (0, List.replicate (r.length + 1) 0, 0) (μr := []) ⟨Nat.zero_le _, by simp, W64.zeros _, Nat.zero_le _, by simp [val]⟩ (And.intro rfl (And.intro rfl (And.intro rfl (And.intro rfl (And.intro rfl (And.intro rfl (And.intro rfl trivial))))))) (List.Perm.refl _) (fun _ h => h) ?_
  rintro ⟨i, w, cy⟩ ⟨hi, hwl, hww, hcy, hv⟩
  try dsimp only at hi
  try dsimp only at hwl
  try dsimp only at hww
  try dsimp only at hcy
  try dsimp only at hv
  show CJ _ _ _ [(0, .slice A' r.length c'), (1, .slice A l.length c), (5, .slice (some ⟨b1, 0, none⟩) (r.length + 1) (r.length + 1)), (6, .int .u64 (cy : Int)), (21, .slice A' r.length c'), (22, .int .i64 (r.length : Int)), (23, .int .i64 (i : Int))] [cellsR b1 (U w).toArray 108] [lF A l, lF A' r]
  have hx := (hw' : W64 r).getD i
  have hy := (hw : W64 l).getD i
  have hcl := carry_le hx hy hcy
  unfold BB at hx hy
  have cc : (cy : Int) ≤ 1 := by omega
  refine CJ_seq ?_
  refine CJ_reg ?_
  refine LJ_y rfl rfl (YJ_bin rfl rfl rfl) ?_
  refine LJ_nil ?_
  refine QJ_then ?_
  refine CJ_seq ?_
  refine CJ_cond rfl (fun h24 => ?_) (fun h24 => ?_)
  ·simp only [decide_eq_true_eq] at h24
   refine CJ_skip ?_
   refine QJ_then ?_
   refine CJ_seq ?_
   refine CJ_block ?_
   refine CJ_seq ?_
   refine CJ_reg ?_
   refine LJ_y rfl rfl (YJ_move rfl) ?_
   refine LJ_y rfl rfl (YJ_ixFact rfl rfl elt_98 m1 (by decide) (by omega) (by omega) (by omega)) ?_
   refine LJ_y rfl rfl (YJ_loadFact (xs := U r) rfl tyi_108 m1 (U_get' (k := i) (by omega) (by omega))) ?_
   refine LJ_y rfl rfl (YJ_assign rfl) ?_
   refine LJ_y rfl rfl (YJ_assign rfl) ?_
   refine LJ_nil ?_
   refine QJ_then ?_
   refine CJ_seq ?_
   refine CJ_reg ?_
   refine LJ_y rfl rfl (YJ_assign rfl) ?_
   refine LJ_nil ?_
   refine QJ_then ?_
   refine CJ_seq ?_
   refine CJ_seq ?_
   refine CJ_reg ?_
   refine LJ_y rfl rfl (YJ_move rfl) ?_
   refine LJ_y rfl rfl (YJ_move rfl) ?_
   refine LJ_y rfl rfl (YJ_len rfl ulen_98 rfl) ?_
   refine LJ_y rfl rfl (YJ_bin rfl rfl rfl) ?_
   refine LJ_nil ?_
   refine QJ_then ?_
   refine CJ_cond rfl (fun h31 => ?_) (fun h31 => ?_)
   ·simp only [decide_eq_true_eq] at h31
    refine CJ_reg ?_
    refine LJ_y rfl rfl (YJ_move rfl) ?_
    refine LJ_y rfl rfl (YJ_move rfl) ?_
    refine LJ_y rfl rfl (YJ_ixFact rfl rfl elt_98 m0 (by decide) (by omega) (by omega) (by omega)) ?_
    refine LJ_y rfl rfl (YJ_loadFact (xs := U l) rfl tyi_108 m0 (U_get' (k := i) (by omega) (by omega))) ?_
    refine LJ_y rfl rfl (YJ_assign rfl) ?_
    refine LJ_nil ?_
    refine QJ_then ?_
    refine CJ_reg ?_
    refine LJ_y rfl rfl (YJ_move rfl) ?_
    refine LJ_y rfl rfl (YJ_move rfl) ?_
    refine LJ_y rfl rfl (YJ_move rfl) ?_
    refine LJ_y rfl rfl (YJ_move rfl) ?_
    refine LJ_y rfl rfl (YJ_move rfl) ?_
    refine LJ_y rfl rfl (YJ_ext rfl rfl (fun w => add64_run _ _ _ (by omega) (by omega) (by omega) (by omega) w)) ?_
    refine LJ_y rfl rfl (YJ_move rfl) ?_
    refine LJ_y rfl rfl (YJ_extract rfl rfl) ?_
    refine LJ_val (v := .int .u64 (((r.getD i 0 + l.getD i 0 + cy) % BB : Nat) : Int)) (congrArg (Value.int .u64) (by unfold BB; omega)) ?_
    refine LJ_y rfl rfl (YJ_extract rfl rfl) ?_
    refine LJ_val (v := .int .u64 (((r.getD i 0 + l.getD i 0 + cy) / BB : Nat) : Int)) (congrArg (Value.int .u64) (by unfold BB; omega)) ?_
    refine LJ_y rfl rfl (YJ_ixOwn rfl rfl elt_98 (by omega) (by omega)) ?_
    refine LJ_store (cs' := (U (w.set i ((r.getD i 0 + l.getD i 0 + cy) % BB))).toArray) (μ' := [_]) 0 rfl rfl rfl rfl tyi_108 rfl (by simp [U]; omega) rfl (U_set (by omega) rfl) rfl ?_
    refine LJ_y rfl rfl (YJ_assign rfl) ?_
    refine LJ_nil ?_
    refine QJ_in_normal ?_
    refine QJ_then ?_
    refine CJ_reg ?_
    refine LJ_y rfl rfl (YJ_bin rfl rfl (iop_add (by omega))) ?_
    refine LJ_y rfl rfl (YJ_move rfl) ?_
    refine LJ_nil ?_
    refine QJ_round (F := fun (x : Nat × List Nat × Nat) => ⟨[(0, .slice A' r.length c'), (1, .slice A l.length c), (5, .slice (some ⟨b1, 0, none⟩) (r.length + 1) (r.length + 1)), (6, .int .u64 (x.2.2 : Int)), (21, .slice A' r.length c'), (22, .int .i64 (r.length : Int)), (23, .int .i64 (x.1 : Int))], [cellsR b1 (U x.2.1).toArray 108], [lF A l, lF A' r]⟩) (I := fun (x : Nat × List Nat × Nat) => x.1 ≤ r.length ∧ x.2.1.length = r.length + 1 ∧ W64 x.2.1 ∧ x.2.2 ≤ 1 ∧ val (x.2.1.take x.1) + BB ^ x.1 * x.2.2 = val (r.take x.1) + val (l.take x.1)) (m := fun (x : Nat × List Nat × Nat) => r.length - x.1) (i := (i, w, cy)) ((i + 1, w.set i ((r.getD i 0 + l.getD i 0 + cy) % BB), (r.getD i 0 + l.getD i 0 + cy) / BB)) (μr := []) ⟨by omega, by simpa using hwl, hww.set _ (Nat.mod_lt _ BB_pos), hcl, add_step (by omega) (by omega) hv⟩ (by omega) (And.intro rfl (And.intro rfl (And.intro rfl (And.intro rfl (And.intro rfl (And.intro rfl (And.intro rfl (trivial)))))))) (List.Perm.refl _) (fun _ h => h)
   ·simp only [decide_eq_false_iff_not] at h31
    have hy0 : l.getD i 0 = 0 := getD_ge (by omega)
    refine CJ_skip ?_
    refine QJ_then ?_
    refine CJ_reg ?_
    refine LJ_y rfl rfl (YJ_move rfl) ?_
    refine LJ_y rfl rfl (YJ_move rfl) ?_
    refine LJ_y rfl rfl (YJ_move rfl) ?_
    refine LJ_y rfl rfl (YJ_move rfl) ?_
    refine LJ_y rfl rfl (YJ_move rfl) ?_
    refine LJ_y rfl rfl (YJ_ext rfl rfl (fun w => add64_run _ _ _ (by omega) (by omega) (by omega) (by omega) w)) ?_
    refine LJ_y rfl rfl (YJ_move rfl) ?_
    refine LJ_y rfl rfl (YJ_extract rfl rfl) ?_
    refine LJ_val (v := .int .u64 (((r.getD i 0 + l.getD i 0 + cy) % BB : Nat) : Int)) (congrArg (Value.int .u64) (by unfold BB; omega)) ?_
    refine LJ_y rfl rfl (YJ_extract rfl rfl) ?_
    refine LJ_val (v := .int .u64 (((r.getD i 0 + l.getD i 0 + cy) / BB : Nat) : Int)) (congrArg (Value.int .u64) (by unfold BB; omega)) ?_
    refine LJ_y rfl rfl (YJ_ixOwn rfl rfl elt_98 (by omega) (by omega)) ?_
    refine LJ_store (cs' := (U (w.set i ((r.getD i 0 + l.getD i 0 + cy) % BB))).toArray) (μ' := [_]) 0 rfl rfl rfl rfl tyi_108 rfl (by simp [U]; omega) rfl (U_set (by omega) rfl) rfl ?_
    refine LJ_y rfl rfl (YJ_assign rfl) ?_
    refine LJ_nil ?_
    refine QJ_in_normal ?_
    refine QJ_then ?_
    refine CJ_reg ?_
    refine LJ_y rfl rfl (YJ_bin rfl rfl (iop_add (by omega))) ?_
    refine LJ_y rfl rfl (YJ_move rfl) ?_
    refine LJ_nil ?_
    refine QJ_round (F := fun (x : Nat × List Nat × Nat) => ⟨[(0, .slice A' r.length c'), (1, .slice A l.length c), (5, .slice (some ⟨b1, 0, none⟩) (r.length + 1) (r.length + 1)), (6, .int .u64 (x.2.2 : Int)), (21, .slice A' r.length c'), (22, .int .i64 (r.length : Int)), (23, .int .i64 (x.1 : Int))], [cellsR b1 (U x.2.1).toArray 108], [lF A l, lF A' r]⟩) (I := fun (x : Nat × List Nat × Nat) => x.1 ≤ r.length ∧ x.2.1.length = r.length + 1 ∧ W64 x.2.1 ∧ x.2.2 ≤ 1 ∧ val (x.2.1.take x.1) + BB ^ x.1 * x.2.2 = val (r.take x.1) + val (l.take x.1)) (m := fun (x : Nat × List Nat × Nat) => r.length - x.1) (i := (i, w, cy)) ((i + 1, w.set i ((r.getD i 0 + l.getD i 0 + cy) % BB), (r.getD i 0 + l.getD i 0 + cy) / BB)) (μr := []) ⟨by omega, by simpa using hwl, hww.set _ (Nat.mod_lt _ BB_pos), hcl, add_step (by omega) (by omega) hv⟩ (by omega) (And.intro rfl (And.intro rfl (And.intro rfl (And.intro rfl (And.intro rfl (And.intro rfl (And.intro rfl (trivial)))))))) (List.Perm.refl _) (fun _ h => h)
  ·simp only [decide_eq_false_iff_not] at h24
   obtain rfl : i = r.length := by omega
   refine CJ_exit ?_
   refine QJ_then_exit ?_
   refine QJ_then_exit ?_
   refine QJ_in_exit ?_
   refine QJ_then ?_
   refine CJ_seq ?_
   refine CJ_reg ?_
   refine LJ_y rfl rfl (YJ_move rfl) ?_
   refine LJ_y rfl rfl (YJ_move rfl) ?_
   refine LJ_y rfl rfl (YJ_len rfl ulen_98 rfl) ?_
   refine LJ_y rfl rfl (YJ_move rfl) ?_
   refine LJ_y rfl rfl (YJ_ixOwn rfl rfl elt_98 (by omega) (by omega)) ?_
   refine LJ_store (cs' := (U (w.set r.length cy)).toArray) (μ' := [_]) 0 rfl rfl rfl rfl tyi_108 rfl (by simp [U]; omega) rfl (U_set (by omega) rfl) rfl ?_
   refine LJ_nil ?_
   refine QJ_then ?_
   refine CJ_seq ?_
   refine CJ_reg ?_
   refine LJ_freeze ?_
   refine LJ_addF (r' := lF (some ⟨b1, 0, none⟩) (w.set r.length cy)) (.head _) (fun w' S h => by have := cellsR_slice (n := (w.set r.length cy).length) (size := 1) (by simp [U]) w' S h; simpa [lF, U] using this) ?_
   refine LJ_y rfl rfl (YJ_move rfl) ?_
   refine LJ_callF rfl rfl rfl rfl rfl (right_c (l := w.set r.length cy) (by simpa using hwl.symm) (hww.set _ (by unfold BB; omega)) (by simp; omega) (by simp; omega)) (AllIn.sub (by first | exact trivial | exact And.intro m0 trivial | exact And.intro (by repeat first | exact .head _ | apply List.Mem.tail) (And.intro (by repeat first | exact .head _ | apply List.Mem.tail) trivial))) ?_
   have hcap : (digits (val (w.set r.length cy))).length ≤ r.length + 1 := by have := digits_len (val_lt (hww.set r.length (x := cy) (by unfold BB; omega))); simpa [hwl] using this
   rw [add_last hwl (by omega) hv, Nat.add_comm (val r) (val l)] at hcap ⊢
   simp only [List.cons_append, List.nil_append]
   refine LJ_y rfl rfl (YJ_assign rfl) ?_
   refine LJ_nil ?_
   refine QJ_then ?_
   refine CJ_ret ?_
   refine QJ_fin (.inl rfl) (μ' := []) (μr := _) (φ' := [dF (some ⟨b1, 0, none⟩) (val l + val r)]) (res_tmp rfl rfl) (List.Perm.refl _) (AllIn.sub (And.intro (.head _) trivial)) ?_
   exact ⟨(_, _), hcap, rfl, rfl, rfl⟩
 ·simp only [decide_eq_false_iff_not] at h14
  refine CJ_skip ?_
  refine QJ_then ?_
  refine CJ_seq ?_
  refine CJ_reg ?_
  refine LJ_y rfl rfl (YJ_move rfl) ?_
  refine LJ_y rfl rfl (YJ_len rfl ulen_98 rfl) ?_
  refine LJ_y rfl rfl (YJ_bin rfl rfl (iop_add (by omega))) ?_
  refine LJ_make rfl rfl elt_98 zer_108 rfl rfl (n := l.length + 1) (by omega) (by omega) (by omega) ?_
  intro b2
  refine LJ_y rfl rfl (YJ_assign rfl) ?_
  refine LJ_nil ?_
  refine QJ_then ?_
  refine CJ_seq ?_
  refine CJ_reg ?_
  refine LJ_y rfl rfl (YJ_assign rfl) ?_
  refine LJ_nil ?_
  refine QJ_then ?_
  refine CJ_seq ?_
  refine CJ_seq ?_
  refine CJ_reg ?_
  refine LJ_y rfl rfl (YJ_move rfl) ?_
  refine LJ_y rfl rfl (YJ_len rfl ulen_98 rfl) ?_
  refine LJ_y rfl rfl (YJ_move rfl) ?_
  refine LJ_nil ?_
  refine QJ_then ?_
  refine CJ_block ?_
  rw [made_U]
  refine CJ_loop (F := fun (x : Nat × List Nat × Nat) => ⟨[(0, .slice A l.length c), (1, .slice A' r.length c'), (5, .slice (some ⟨b2, 0, none⟩) (l.length + 1) (l.length + 1)), (6, .int .u64 (x.2.2 : Int)), (21, .slice A l.length c), (22, .int .i64 (l.length : Int)), (23, .int .i64 (x.1 : Int))], [cellsR b2 (U x.2.1).toArray 108], [lF A l, lF A' r]⟩) (I := fun (x : Nat × List Nat × Nat) => x.1 ≤ l.length ∧ x.2.1.length = l.length + 1 ∧ W64 x.2.1 ∧ x.2.2 ≤ 1 ∧ val (x.2.1.take x.1) + BB ^ x.1 * x.2.2 = val (l.take x.1) + val (r.take x.1)) (m := fun (x : Nat × List Nat × Nat) => l.length - x.1) (0, List.replicate (l.length + 1) 0, 0) (μr := []) ⟨Nat.zero_le _, by simp, W64.zeros _, Nat.zero_le _, by simp [val]⟩ (And.intro rfl (And.intro rfl (And.intro rfl (And.intro rfl (And.intro rfl (And.intro rfl (And.intro rfl trivial))))))) (List.Perm.refl _) (fun _ h => h) ?_
  rintro ⟨i, w, cy⟩ ⟨hi, hwl, hww, hcy, hv⟩
  try dsimp only at hi
  try dsimp only at hwl
  try dsimp only at hww
  try dsimp only at hcy
  try dsimp only at hv
  show CJ _ _ _ [(0, .slice A l.length c), (1, .slice A' r.length c'), (5, .slice (some ⟨b2, 0, none⟩) (l.length + 1) (l.length + 1)), (6, .int .u64 (cy : Int)), (21, .slice A l.length c), (22, .int .i64 (l.length : Int)), (23, .int .i64 (i : Int))] [cellsR b2 (U w).toArray 108] [lF A l, lF A' r]
  have hx := (hw : W64 l).getD i
  have hy := (hw' : W64 r).getD i
  have hcl := carry_le hx hy hcy
  unfold BB at hx hy
  have cc : (cy : Int) ≤ 1 := by omega
  refine CJ_seq ?_
  refine CJ_reg ?_
  refine LJ_y rfl rfl (YJ_bin rfl rfl rfl) ?_
  refine LJ_nil ?_
  refine QJ_then ?_
  refine CJ_seq ?_
  refine CJ_cond rfl (fun h24 => ?_) (fun h24 => ?_)
  ·simp only [decide_eq_true_eq] at h24
   refine CJ_skip ?_
   refine QJ_then ?_
   refine CJ_seq ?_
   refine CJ_block ?_
   refine CJ_seq ?_
   refine CJ_reg ?_
   refine LJ_y rfl rfl (YJ_move rfl) ?_
   refine LJ_y rfl rfl (YJ_ixFact rfl rfl elt_98 m0 (by decide) (by omega) (by omega) (by omega)) ?_
   refine LJ_y rfl rfl (YJ_loadFact (xs := U l) rfl tyi_108 m0 (U_get' (k := i) (by omega) (by omega))) ?_
   refine LJ_y rfl rfl (YJ_assign rfl) ?_
   refine LJ_y rfl rfl (YJ_assign rfl) ?_
   refine LJ_nil ?_
   refine QJ_then ?_
   refine CJ_seq ?_
   refine CJ_reg ?_
   refine LJ_y rfl rfl (YJ_assign rfl) ?_
   refine LJ_nil ?_
   refine QJ_then ?_
   refine CJ_seq ?_
   refine CJ_seq ?_
   refine CJ_reg ?_
   refine LJ_y rfl rfl (YJ_move rfl) ?_
   refine LJ_y rfl rfl (YJ_move rfl) ?_
   refine LJ_y rfl rfl (YJ_len rfl ulen_98 rfl) ?_
   refine LJ_y rfl rfl (YJ_bin rfl rfl rfl) ?_
   refine LJ_nil ?_
   refine QJ_then ?_
   refine CJ_cond rfl (fun h31 => ?_) (fun h31 => ?_)
   ·simp only [decide_eq_true_eq] at h31
    refine CJ_reg ?_
    refine LJ_y rfl rfl (YJ_move rfl) ?_
    refine LJ_y rfl rfl (YJ_move rfl) ?_
    refine LJ_y rfl rfl (YJ_ixFact rfl rfl elt_98 m1 (by decide) (by omega) (by omega) (by omega)) ?_
    refine LJ_y rfl rfl (YJ_loadFact (xs := U r) rfl tyi_108 m1 (U_get' (k := i) (by omega) (by omega))) ?_
    refine LJ_y rfl rfl (YJ_assign rfl) ?_
    refine LJ_nil ?_
    refine QJ_then ?_
    refine CJ_reg ?_
    refine LJ_y rfl rfl (YJ_move rfl) ?_
    refine LJ_y rfl rfl (YJ_move rfl) ?_
    refine LJ_y rfl rfl (YJ_move rfl) ?_
    refine LJ_y rfl rfl (YJ_move rfl) ?_
    refine LJ_y rfl rfl (YJ_move rfl) ?_
    refine LJ_y rfl rfl (YJ_ext rfl rfl (fun w => add64_run _ _ _ (by omega) (by omega) (by omega) (by omega) w)) ?_
    refine LJ_y rfl rfl (YJ_move rfl) ?_
    refine LJ_y rfl rfl (YJ_extract rfl rfl) ?_
    refine LJ_val (v := .int .u64 (((l.getD i 0 + r.getD i 0 + cy) % BB : Nat) : Int)) (congrArg (Value.int .u64) (by unfold BB; omega)) ?_
    refine LJ_y rfl rfl (YJ_extract rfl rfl) ?_
    refine LJ_val (v := .int .u64 (((l.getD i 0 + r.getD i 0 + cy) / BB : Nat) : Int)) (congrArg (Value.int .u64) (by unfold BB; omega)) ?_
    refine LJ_y rfl rfl (YJ_ixOwn rfl rfl elt_98 (by omega) (by omega)) ?_
    refine LJ_store (cs' := (U (w.set i ((l.getD i 0 + r.getD i 0 + cy) % BB))).toArray) (μ' := [_]) 0 rfl rfl rfl rfl tyi_108 rfl (by simp [U]; omega) rfl (U_set (by omega) rfl) rfl ?_
    refine LJ_y rfl rfl (YJ_assign rfl) ?_
    refine LJ_nil ?_
    refine QJ_in_normal ?_
    refine QJ_then ?_
    refine CJ_reg ?_
    refine LJ_y rfl rfl (YJ_bin rfl rfl (iop_add (by omega))) ?_
    refine LJ_y rfl rfl (YJ_move rfl) ?_
    refine LJ_nil ?_
    refine QJ_round (F := fun (x : Nat × List Nat × Nat) => ⟨[(0, .slice A l.length c), (1, .slice A' r.length c'), (5, .slice (some ⟨b2, 0, none⟩) (l.length + 1) (l.length + 1)), (6, .int .u64 (x.2.2 : Int)), (21, .slice A l.length c), (22, .int .i64 (l.length : Int)), (23, .int .i64 (x.1 : Int))], [cellsR b2 (U x.2.1).toArray 108], [lF A l, lF A' r]⟩) (I := fun (x : Nat × List Nat × Nat) => x.1 ≤ l.length ∧ x.2.1.length = l.length + 1 ∧ W64 x.2.1 ∧ x.2.2 ≤ 1 ∧ val (x.2.1.take x.1) + BB ^ x.1 * x.2.2 = val (l.take x.1) + val (r.take x.1)) (m := fun (x : Nat × List Nat × Nat) => l.length - x.1) (i := (i, w, cy)) ((i + 1, w.set i ((l.getD i 0 + r.getD i 0 + cy) % BB), (l.getD i 0 + r.getD i 0 + cy) / BB)) (μr := []) ⟨by omega, by simpa using hwl, hww.set _ (Nat.mod_lt _ BB_pos), hcl, add_step (by omega) (by omega) hv⟩ (by omega) (And.intro rfl (And.intro rfl (And.intro rfl (And.intro rfl (And.intro rfl (And.intro rfl (And.intro rfl (trivial)))))))) (List.Perm.refl _) (fun _ h => h)
   ·simp only [decide_eq_false_iff_not] at h31
    have hy0 : r.getD i 0 = 0 := getD_ge (by omega)
    refine CJ_skip ?_
    refine QJ_then ?_
    refine CJ_reg ?_
    refine LJ_y rfl rfl (YJ_move rfl) ?_
    refine LJ_y rfl rfl (YJ_move rfl) ?_
    refine LJ_y rfl rfl (YJ_move rfl) ?_
    refine LJ_y rfl rfl (YJ_move rfl) ?_
    refine LJ_y rfl rfl (YJ_move rfl) ?_
    refine LJ_y rfl rfl (YJ_ext rfl rfl (fun w => add64_run _ _ _ (by omega) (by omega) (by omega) (by omega) w)) ?_
    refine LJ_y rfl rfl (YJ_move rfl) ?_
    refine LJ_y rfl rfl (YJ_extract rfl rfl) ?_
    refine LJ_val (v := .int .u64 (((l.getD i 0 + r.getD i 0 + cy) % BB : Nat) : Int)) (congrArg (Value.int .u64) (by unfold BB; omega)) ?_
    refine LJ_y rfl rfl (YJ_extract rfl rfl) ?_
    refine LJ_val (v := .int .u64 (((l.getD i 0 + r.getD i 0 + cy) / BB : Nat) : Int)) (congrArg (Value.int .u64) (by unfold BB; omega)) ?_
    refine LJ_y rfl rfl (YJ_ixOwn rfl rfl elt_98 (by omega) (by omega)) ?_
    refine LJ_store (cs' := (U (w.set i ((l.getD i 0 + r.getD i 0 + cy) % BB))).toArray) (μ' := [_]) 0 rfl rfl rfl rfl tyi_108 rfl (by simp [U]; omega) rfl (U_set (by omega) rfl) rfl ?_
    refine LJ_y rfl rfl (YJ_assign rfl) ?_
    refine LJ_nil ?_
    refine QJ_in_normal ?_
    refine QJ_then ?_
    refine CJ_reg ?_
    refine LJ_y rfl rfl (YJ_bin rfl rfl (iop_add (by omega))) ?_
    refine LJ_y rfl rfl (YJ_move rfl) ?_
    refine LJ_nil ?_
    refine QJ_round (F := fun (x : Nat × List Nat × Nat) => ⟨[(0, .slice A l.length c), (1, .slice A' r.length c'), (5, .slice (some ⟨b2, 0, none⟩) (l.length + 1) (l.length + 1)), (6, .int .u64 (x.2.2 : Int)), (21, .slice A l.length c), (22, .int .i64 (l.length : Int)), (23, .int .i64 (x.1 : Int))], [cellsR b2 (U x.2.1).toArray 108], [lF A l, lF A' r]⟩) (I := fun (x : Nat × List Nat × Nat) => x.1 ≤ l.length ∧ x.2.1.length = l.length + 1 ∧ W64 x.2.1 ∧ x.2.2 ≤ 1 ∧ val (x.2.1.take x.1) + BB ^ x.1 * x.2.2 = val (l.take x.1) + val (r.take x.1)) (m := fun (x : Nat × List Nat × Nat) => l.length - x.1) (i := (i, w, cy)) ((i + 1, w.set i ((l.getD i 0 + r.getD i 0 + cy) % BB), (l.getD i 0 + r.getD i 0 + cy) / BB)) (μr := []) ⟨by omega, by simpa using hwl, hww.set _ (Nat.mod_lt _ BB_pos), hcl, add_step (by omega) (by omega) hv⟩ (by omega) (And.intro rfl (And.intro rfl (And.intro rfl (And.intro rfl (And.intro rfl (And.intro rfl (And.intro rfl (trivial)))))))) (List.Perm.refl _) (fun _ h => h)
  ·simp only [decide_eq_false_iff_not] at h24
   obtain rfl : i = l.length := by omega
   refine CJ_exit ?_
   refine QJ_then_exit ?_
   refine QJ_then_exit ?_
   refine QJ_in_exit ?_
   refine QJ_then ?_
   refine CJ_seq ?_
   refine CJ_reg ?_
   refine LJ_y rfl rfl (YJ_move rfl) ?_
   refine LJ_y rfl rfl (YJ_move rfl) ?_
   refine LJ_y rfl rfl (YJ_len rfl ulen_98 rfl) ?_
   refine LJ_y rfl rfl (YJ_move rfl) ?_
   refine LJ_y rfl rfl (YJ_ixOwn rfl rfl elt_98 (by omega) (by omega)) ?_
   refine LJ_store (cs' := (U (w.set l.length cy)).toArray) (μ' := [_]) 0 rfl rfl rfl rfl tyi_108 rfl (by simp [U]; omega) rfl (U_set (by omega) rfl) rfl ?_
   refine LJ_nil ?_
   refine QJ_then ?_
   refine CJ_seq ?_
   refine CJ_reg ?_
   refine LJ_freeze ?_
   refine LJ_addF (r' := lF (some ⟨b2, 0, none⟩) (w.set l.length cy)) (.head _) (fun w' S h => by have := cellsR_slice (n := (w.set l.length cy).length) (size := 1) (by simp [U]) w' S h; simpa [lF, U] using this) ?_
   refine LJ_y rfl rfl (YJ_move rfl) ?_
   refine LJ_callF rfl rfl rfl rfl rfl (right_c (l := w.set l.length cy) (by simpa using hwl.symm) (hww.set _ (by unfold BB; omega)) (by simp; omega) (by simp; omega)) (AllIn.sub (by first | exact trivial | exact And.intro m0 trivial | exact And.intro (by repeat first | exact .head _ | apply List.Mem.tail) (And.intro (by repeat first | exact .head _ | apply List.Mem.tail) trivial))) ?_
   have hcap : (digits (val (w.set l.length cy))).length ≤ l.length + 1 := by have := digits_len (val_lt (hww.set l.length (x := cy) (by unfold BB; omega))); simpa [hwl] using this
   rw [add_last hwl (by omega) hv] at hcap ⊢
   simp only [List.cons_append, List.nil_append]
   refine LJ_y rfl rfl (YJ_assign rfl) ?_
   refine LJ_nil ?_
   refine QJ_then ?_
   refine CJ_ret ?_
   refine QJ_fin (.inl rfl) (μ' := []) (μr := _) (φ' := [dF (some ⟨b2, 0, none⟩) (val l + val r)]) (res_tmp rfl rfl) (List.Perm.refl _) (AllIn.sub (And.intro (.head _) trivial)) ?_
   exact ⟨(_, _), hcap, rfl, rfl, rfl⟩
end Go.Proofs.Ytbanlhlggkdanaa
namespace Go.Proofs.Ytbanlhlggkdanaa
open Go.RowKit
theorem ent_80 : Enter Try.prog 80 = true := by kernel_rfl
theorem sub_word {x y b : Nat} (hx : x < BB) (hy : y < BB) (hb : b ≤ 1) : (x + BB - y - b) % BB + y + b = x + BB * (if x < y + b then 1 else 0) := by
 unfold BB at *; split <;> omega
theorem sub_step {l r w : List Nat} {i b : Nat} (hl : W64 l) (hr : W64 r) (hb : b ≤ 1) (hi : i < l.length) (hw : i < w.length) (hv : val (w.take i) + val (r.take i) = val (l.take i) + BB ^ i * b) :
  val ((w.set i ((l.getD i 0 + BB - r.getD i 0 - b) % BB)).take (i + 1)) + val (r.take (i + 1)) = val (l.take (i + 1)) + BB ^ (i + 1) * (if l.getD i 0 < r.getD i 0 + b then 1 else 0) := by
 rw [val_set_take hw, val_take_succ hi]
 have hr' : val (r.take (i + 1)) = val (r.take i) + BB ^ i * r.getD i 0 := by
  rcases Nat.lt_or_ge i r.length with h | h
  ·exact val_take_succ h
  ·rw [val_take_all (by omega), val_take_all h, getD_ge h]; simp
 rw [hr']
 have hs := sub_word (hl.getD i) (hr.getD i) hb
 have hp : BB ^ i * ((l.getD i 0 + BB - r.getD i 0 - b) % BB) + BB ^ i * r.getD i 0 + BB ^ i * b = BB ^ i * l.getD i 0 + BB ^ (i + 1) * (if l.getD i 0 < r.getD i 0 + b then 1 else 0) := by
  rw [Nat.pow_succ, Nat.mul_assoc, ← Nat.mul_add, ← Nat.mul_add, ← Nat.mul_add, hs]
 omega
theorem sub_last {u v : Nat} {w : List Nat} {b : Nat} (h : v < u) (hb : b ≤ 1) (hw : W64 w) (hlen : w.length = (digits u).length)
  (hv : val (w.take (digits u).length) + val ((digits v).take (digits u).length) = val ((digits u).take (digits u).length) + BB ^ (digits u).length * b) : val w = u - v := by
 have hle : (digits v).length ≤ (digits u).length := by
  rcases Nat.lt_or_ge (digits u).length (digits v).length with h' | h'
  ·have := digits_len_lt h'; omega
  ·exact h'
 rw [val_take_all (by omega), val_take_all hle, val_take_all (Nat.le_refl _), val_digits, val_digits] at hv
 have hlt := val_lt hw
 rw [hlen] at hlt
 have : b = 0 := by
  rcases Nat.lt_or_ge b 1 with h1 | h1
  ·omega
  ·have hb1 : b = 1 := by omega
   subst hb1
   simp at hv
   omega
 subst this
 simp at hv
 omega
theorem sgn_le_zero {n : Int} : sgn n ≤ 0 ↔ n ≤ 0 := by have := sgn_cases n; omega
set_option maxRecDepth 100000 in
set_option maxHeartbeats 4000000 in
theorem msub_c {A A' : Option Addr} {n m c c' : Nat} {l r : List Nat} (hn : n = l.length) (hm : m = r.length) (hw : W64 l) (hw' : W64 r) (hl : l.length ≤ 100000) (hl' : r.length ≤ 100000) (hc : l.length ≤ c) (hc' : r.length ≤ c') : Tri Try.prog 80 [.slice A n c, .slice A' m c'] [] [lF A l, lF A' r] (RetM (val l - val r)) := by
 refine Tri_of (N := 49) Try.func80 rfl ent_80 rfl rfl ?_
 intro w0 S0 T0
 show CJ _ _ _ [(0, _), (1, _)] _ _
 subst hn
 subst hm
 have hd : (digits (val l)).length ≤ l.length := digits_len (val_lt hw)
 have hd' : (digits (val r)).length ≤ r.length := digits_len (val_lt hw')
 refine CJ_seq ?_
 refine CJ_reg ?_
 refine LJ_y rfl rfl (YJ_assign rfl) ?_
 refine LJ_nil ?_
 refine QJ_then ?_
 refine CJ_seq ?_
 refine CJ_reg ?_
 refine LJ_y rfl rfl (YJ_move rfl) ?_
 refine LJ_callF rfl rfl rfl rfl rfl (right_c rfl hw (by omega) hc) (AllIn.sub (by first | exact trivial | exact And.intro m0 trivial | exact And.intro (by repeat first | exact .head _ | apply List.Mem.tail) (And.intro (by repeat first | exact .head _ | apply List.Mem.tail) trivial))) ?_
 simp only [List.cons_append, List.nil_append]
 refine LJ_y rfl rfl (YJ_move rfl) ?_
 refine LJ_callF rfl rfl rfl rfl rfl (right_c rfl hw' (by omega) hc') (AllIn.sub (by first | exact trivial | exact And.intro m2 trivial | exact And.intro (by repeat first | exact .head _ | apply List.Mem.tail) (And.intro (by repeat first | exact .head _ | apply List.Mem.tail) trivial))) ?_
 simp only [List.cons_append, List.nil_append]
 refine LJ_y rfl rfl (YJ_assign rfl) ?_
 refine LJ_y rfl rfl (YJ_assign rfl) ?_
 refine LJ_nil ?_
 refine QJ_then ?_
 refine CJ_seq ?_
 refine CJ_seq ?_
 refine CJ_reg ?_
 refine LJ_y rfl rfl (YJ_move rfl) ?_
 refine LJ_y rfl rfl (YJ_move rfl) ?_
 refine LJ_call0 rfl rfl rfl rfl rfl (mcmp_c (l := digits (val l)) (r := digits (val r)) rfl rfl (digits_w _) (digits_w _) (by omega) (by omega) (by omega) (by omega)) (AllIn.sub (And.intro m1 (And.intro m0 trivial))) ?_
 refine LJ_y rfl rfl (YJ_bin rfl rfl rfl) ?_
 rw [val_digits, val_digits]
 refine LJ_nil ?_
 refine QJ_then ?_
 refine CJ_cond rfl (fun h17 => ?_) (fun h17 => ?_)
 ·simp only [decide_eq_true_eq] at h17
  have e0 : val l - val r = 0 := by have := sgn_le_zero.1 h17; omega
  refine CJ_seq ?_
  refine CJ_reg ?_
  refine LJ_y rfl rfl (YJ_assign rfl) ?_
  refine LJ_nil ?_
  refine QJ_then ?_
  refine CJ_ret ?_
  refine QJ_then_ret ?_
  refine QJ_newF (r' := sliceR 1 none 0 []) (sliceR_nil 1 none) ?_
  refine QJ_fin (.inl rfl) (μ' := []) (μr := _) (φ' := [sliceR 1 none 0 []]) (res_tmp rfl rfl) (List.Perm.refl _) (AllIn.sub (And.intro (.head _) trivial)) ?_
  exact ⟨(none, 0), by rw [e0, digits_zero]; simp, by rw [e0, digits_zero]; rfl, rfl, by rw [e0]; unfold dF; rw [digits_zero]; rfl⟩
 ·simp only [decide_eq_false_iff_not] at h17
  have h17 : val r < val l := by have h := mt sgn_le_zero.2 h17; omega
  refine CJ_skip ?_
  refine QJ_then ?_
  refine CJ_seq ?_
  refine CJ_reg ?_
  refine LJ_y rfl rfl (YJ_move rfl) ?_
  refine LJ_y rfl rfl (YJ_len rfl ulen_98 rfl) ?_
  refine LJ_make rfl rfl elt_98 zer_108 rfl rfl (n := (digits (val l)).length) (by omega) (by omega) (by omega) ?_
  intro b1
  refine LJ_y rfl rfl (YJ_assign rfl) ?_
  refine LJ_nil ?_
  refine QJ_then ?_
  refine CJ_seq ?_
  refine CJ_reg ?_
  refine LJ_y rfl rfl (YJ_assign rfl) ?_
  refine LJ_nil ?_
  refine QJ_then ?_
  refine CJ_seq ?_
  refine CJ_seq ?_
  refine CJ_reg ?_
  refine LJ_y rfl rfl (YJ_move rfl) ?_
  refine LJ_y rfl rfl (YJ_len rfl ulen_98 rfl) ?_
  refine LJ_y rfl rfl (YJ_move rfl) ?_
  refine LJ_nil ?_
  refine QJ_then ?_
  refine CJ_block ?_
  rw [made_U]
  refine CJ_loop (F := fun (x : Nat × List Nat × Nat) => ⟨[(0, .slice A (digits (val l)).length c), (1, .slice A' (digits (val r)).length c'), (5, .slice (some ⟨b1, 0, none⟩) (digits (val l)).length (digits (val l)).length), (6, .int .u64 (x.2.2 : Int)), (21, .slice A (digits (val l)).length c), (22, .int .i64 ((digits (val l)).length : Int)), (23, .int .i64 (x.1 : Int))], [cellsR b1 (U x.2.1).toArray 108], [dF A' (val r), dF A (val l), lF A l, lF A' r]⟩) (I := fun (x : Nat × List Nat × Nat) => x.1 ≤ (digits (val l)).length ∧ x.2.1.length = (digits (val l)).length ∧ W64 x.2.1 ∧ x.2.2 ≤ 1 ∧ val (x.2.1.take x.1) + val ((digits (val r)).take x.1) = val ((digits (val l)).take x.1) + BB ^ x.1 * x.2.2) (m := fun (x : Nat × List Nat × Nat) => (digits (val l)).length - x.1) (0, List.replicate (digits (val l)).length 0, 0) (μr := []) ⟨Nat.zero_le _, by simp, W64.zeros _, Nat.zero_le _, by simp [val]⟩ (And.intro rfl (And.intro rfl (And.intro rfl (And.intro rfl (And.intro rfl (And.intro rfl (And.intro rfl (trivial)))))))) (List.Perm.refl _) (fun _ h => h) ?_
  rintro ⟨i, w, cy⟩ ⟨hi, hwl, hww, hcy, hv⟩
  try dsimp only at hi
  try dsimp only at hwl
  try dsimp only at hww
  try dsimp only at hcy
  try dsimp only at hv
  show CJ _ _ _ [(0, .slice A (digits (val l)).length c), (1, .slice A' (digits (val r)).length c'), (5, .slice (some ⟨b1, 0, none⟩) (digits (val l)).length (digits (val l)).length), (6, .int .u64 (cy : Int)), (21, .slice A (digits (val l)).length c), (22, .int .i64 ((digits (val l)).length : Int)), (23, .int .i64 (i : Int))] [cellsR b1 (U w).toArray 108] [dF A' (val r), dF A (val l), lF A l, lF A' r]
  have hx := (digits_w (val l)).getD i
  have hy := (digits_w (val r)).getD i
  have hx' := hx
  have hy' := hy
  unfold BB at hx hy
  have cc : (cy : Int) ≤ 1 := by omega
  refine CJ_seq ?_
  refine CJ_reg ?_
  refine LJ_y rfl rfl (YJ_bin rfl rfl rfl) ?_
  refine LJ_nil ?_
  refine QJ_then ?_
  refine CJ_seq ?_
  refine CJ_cond rfl (fun h24 => ?_) (fun h24 => ?_)
  ·simp only [decide_eq_true_eq] at h24
   refine CJ_skip ?_
   refine QJ_then ?_
   refine CJ_seq ?_
   refine CJ_block ?_
   refine CJ_seq ?_
   refine CJ_reg ?_
   refine LJ_y rfl rfl (YJ_move rfl) ?_
   refine LJ_y rfl rfl (YJ_ixFact rfl rfl elt_98 m1 (by decide) (by omega) (by omega) (by omega)) ?_
   refine LJ_y rfl rfl (YJ_loadFact (xs := U (digits (val l))) rfl tyi_108 m1 (U_get' (k := i) (by omega) (by omega))) ?_
   refine LJ_y rfl rfl (YJ_assign rfl) ?_
   refine LJ_y rfl rfl (YJ_assign rfl) ?_
   refine LJ_nil ?_
   refine QJ_then ?_
   refine CJ_seq ?_
   refine CJ_reg ?_
   refine LJ_y rfl rfl (YJ_assign rfl) ?_
   refine LJ_nil ?_
   refine QJ_then ?_
   refine CJ_seq ?_
   refine CJ_seq ?_
   refine CJ_reg ?_
   refine LJ_y rfl rfl (YJ_move rfl) ?_
   refine LJ_y rfl rfl (YJ_move rfl) ?_
   refine LJ_y rfl rfl (YJ_len rfl ulen_98 rfl) ?_
   refine LJ_y rfl rfl (YJ_bin rfl rfl rfl) ?_
   refine LJ_nil ?_
   refine QJ_then ?_
   refine CJ_cond rfl (fun h31 => ?_) (fun h31 => ?_)
   ·simp only [decide_eq_true_eq] at h31
    refine CJ_reg ?_
    refine LJ_y rfl rfl (YJ_move rfl) ?_
    refine LJ_y rfl rfl (YJ_move rfl) ?_
    refine LJ_y rfl rfl (YJ_ixFact rfl rfl elt_98 m0 (by decide) (by omega) (by omega) (by omega)) ?_
    refine LJ_y rfl rfl (YJ_loadFact (xs := U (digits (val r))) rfl tyi_108 m0 (U_get' (k := i) (by omega) (by omega))) ?_
    refine LJ_y rfl rfl (YJ_assign rfl) ?_
    refine LJ_nil ?_
    refine QJ_then ?_
    refine CJ_reg ?_
    refine LJ_y rfl rfl (YJ_move rfl) ?_
    refine LJ_y rfl rfl (YJ_move rfl) ?_
    refine LJ_y rfl rfl (YJ_move rfl) ?_
    refine LJ_y rfl rfl (YJ_move rfl) ?_
    refine LJ_y rfl rfl (YJ_move rfl) ?_
    refine LJ_y rfl rfl (YJ_ext rfl rfl (fun w => sub64_run' _ _ _ (by omega) (by omega) (by omega) (by omega) (by omega) (by omega) w)) ?_
    refine LJ_y rfl rfl (YJ_move rfl) ?_
    refine LJ_y rfl rfl (YJ_extract rfl rfl) ?_
    refine LJ_val (v := .int .u64 ((((digits (val l)).getD i 0 + BB - (digits (val r)).getD i 0 - cy) % BB : Nat) : Int)) (congrArg (Value.int .u64) (by unfold BB; omega)) ?_
    refine LJ_y rfl rfl (YJ_extract rfl rfl) ?_
    refine LJ_val (v := .int .u64 (((if (digits (val l)).getD i 0 < (digits (val r)).getD i 0 + cy then 1 else 0) : Nat) : Int)) (congrArg (Value.int .u64) (by split <;> omega)) ?_
    refine LJ_y rfl rfl (YJ_ixOwn rfl rfl elt_98 (by omega) (by omega)) ?_
    refine LJ_store (cs' := (U (w.set i (((digits (val l)).getD i 0 + BB - (digits (val r)).getD i 0 - cy) % BB))).toArray) (μ' := [_]) 0 rfl rfl rfl rfl tyi_108 rfl (by simp [U]; omega) rfl (U_set (by omega) rfl) rfl ?_
    refine LJ_y rfl rfl (YJ_assign rfl) ?_
    refine LJ_nil ?_
    refine QJ_in_normal ?_
    refine QJ_then ?_
    refine CJ_reg ?_
    refine LJ_y rfl rfl (YJ_bin rfl rfl (iop_add (by omega))) ?_
    refine LJ_y rfl rfl (YJ_move rfl) ?_
    refine LJ_nil ?_
    refine QJ_round (F := fun (x : Nat × List Nat × Nat) => ⟨[(0, .slice A (digits (val l)).length c), (1, .slice A' (digits (val r)).length c'), (5, .slice (some ⟨b1, 0, none⟩) (digits (val l)).length (digits (val l)).length), (6, .int .u64 (x.2.2 : Int)), (21, .slice A (digits (val l)).length c), (22, .int .i64 ((digits (val l)).length : Int)), (23, .int .i64 (x.1 : Int))], [cellsR b1 (U x.2.1).toArray 108], [dF A' (val r), dF A (val l), lF A l, lF A' r]⟩) (I := fun (x : Nat × List Nat × Nat) => x.1 ≤ (digits (val l)).length ∧ x.2.1.length = (digits (val l)).length ∧ W64 x.2.1 ∧ x.2.2 ≤ 1 ∧ val (x.2.1.take x.1) + val ((digits (val r)).take x.1) = val ((digits (val l)).take x.1) + BB ^ x.1 * x.2.2) (m := fun (x : Nat × List Nat × Nat) => (digits (val l)).length - x.1) (i := (i, w, cy)) ((i + 1, w.set i (((digits (val l)).getD i 0 + BB - (digits (val r)).getD i 0 - cy) % BB), (if (digits (val l)).getD i 0 < (digits (val r)).getD i 0 + cy then 1 else 0))) (μr := []) ⟨by omega, by simpa using hwl, hww.set _ (Nat.mod_lt _ BB_pos), by dsimp only; split <;> omega, sub_step (digits_w _) (digits_w _) hcy (by omega) (by omega) hv⟩ (by omega) (And.intro rfl (And.intro rfl (And.intro rfl (And.intro rfl (And.intro rfl (And.intro rfl (And.intro rfl (trivial)))))))) (List.Perm.refl _) (fun _ h => h)
   ·simp only [decide_eq_false_iff_not] at h31
    have hy0 : (digits (val r)).getD i 0 = 0 := getD_ge (by omega)
    refine CJ_skip ?_
    refine QJ_then ?_
    refine CJ_reg ?_
    refine LJ_y rfl rfl (YJ_move rfl) ?_
    refine LJ_y rfl rfl (YJ_move rfl) ?_
    refine LJ_y rfl rfl (YJ_move rfl) ?_
    refine LJ_y rfl rfl (YJ_move rfl) ?_
    refine LJ_y rfl rfl (YJ_move rfl) ?_
    refine LJ_y rfl rfl (YJ_ext rfl rfl (fun w => sub64_run' _ _ _ (by omega) (by omega) (by omega) (by omega) (by omega) (by omega) w)) ?_
    refine LJ_y rfl rfl (YJ_move rfl) ?_
    refine LJ_y rfl rfl (YJ_extract rfl rfl) ?_
    refine LJ_val (v := .int .u64 ((((digits (val l)).getD i 0 + BB - (digits (val r)).getD i 0 - cy) % BB : Nat) : Int)) (congrArg (Value.int .u64) (by unfold BB; omega)) ?_
    refine LJ_y rfl rfl (YJ_extract rfl rfl) ?_
    refine LJ_val (v := .int .u64 (((if (digits (val l)).getD i 0 < (digits (val r)).getD i 0 + cy then 1 else 0) : Nat) : Int)) (congrArg (Value.int .u64) (by split <;> omega)) ?_
    refine LJ_y rfl rfl (YJ_ixOwn rfl rfl elt_98 (by omega) (by omega)) ?_
    refine LJ_store (cs' := (U (w.set i (((digits (val l)).getD i 0 + BB - (digits (val r)).getD i 0 - cy) % BB))).toArray) (μ' := [_]) 0 rfl rfl rfl rfl tyi_108 rfl (by simp [U]; omega) rfl (U_set (by omega) rfl) rfl ?_
    refine LJ_y rfl rfl (YJ_assign rfl) ?_
    refine LJ_nil ?_
    refine QJ_in_normal ?_
    refine QJ_then ?_
    refine CJ_reg ?_
    refine LJ_y rfl rfl (YJ_bin rfl rfl (iop_add (by omega))) ?_
    refine LJ_y rfl rfl (YJ_move rfl) ?_
    refine LJ_nil ?_
    refine QJ_round (F := fun (x : Nat × List Nat × Nat) => ⟨[(0, .slice A (digits (val l)).length c), (1, .slice A' (digits (val r)).length c'), (5, .slice (some ⟨b1, 0, none⟩) (digits (val l)).length (digits (val l)).length), (6, .int .u64 (x.2.2 : Int)), (21, .slice A (digits (val l)).length c), (22, .int .i64 ((digits (val l)).length : Int)), (23, .int .i64 (x.1 : Int))], [cellsR b1 (U x.2.1).toArray 108], [dF A' (val r), dF A (val l), lF A l, lF A' r]⟩) (I := fun (x : Nat × List Nat × Nat) => x.1 ≤ (digits (val l)).length ∧ x.2.1.length = (digits (val l)).length ∧ W64 x.2.1 ∧ x.2.2 ≤ 1 ∧ val (x.2.1.take x.1) + val ((digits (val r)).take x.1) = val ((digits (val l)).take x.1) + BB ^ x.1 * x.2.2) (m := fun (x : Nat × List Nat × Nat) => (digits (val l)).length - x.1) (i := (i, w, cy)) ((i + 1, w.set i (((digits (val l)).getD i 0 + BB - (digits (val r)).getD i 0 - cy) % BB), (if (digits (val l)).getD i 0 < (digits (val r)).getD i 0 + cy then 1 else 0))) (μr := []) ⟨by omega, by simpa using hwl, hww.set _ (Nat.mod_lt _ BB_pos), by dsimp only; split <;> omega, sub_step (digits_w _) (digits_w _) hcy (by omega) (by omega) hv⟩ (by omega) (And.intro rfl (And.intro rfl (And.intro rfl (And.intro rfl (And.intro rfl (And.intro rfl (And.intro rfl (trivial)))))))) (List.Perm.refl _) (fun _ h => h)
  ·simp only [decide_eq_false_iff_not] at h24
   obtain rfl : i = (digits (val l)).length := by omega
   refine CJ_exit ?_
   refine QJ_then_exit ?_
   refine QJ_then_exit ?_
   refine QJ_in_exit ?_
   refine QJ_then ?_
   refine CJ_seq ?_
   refine CJ_reg ?_
   refine LJ_freeze ?_
   refine LJ_addF (r' := lF (some ⟨b1, 0, none⟩) w) (.head _) (fun w' S h => by have := cellsR_slice (n := w.length) (size := 1) (by simp [U]) w' S h; simpa [lF, U] using this) ?_
   refine LJ_y rfl rfl (YJ_move rfl) ?_
   refine LJ_callF rfl rfl rfl rfl rfl (right_c (l := w) hwl.symm hww (by omega) (by omega)) (AllIn.sub (by first | exact trivial | exact And.intro m0 trivial | exact And.intro (by repeat first | exact .head _ | apply List.Mem.tail) (And.intro (by repeat first | exact .head _ | apply List.Mem.tail) trivial))) ?_
   have hcap : (digits (val w)).length ≤ (digits (val l)).length := by have := digits_len (val_lt hww); omega
   rw [sub_last h17 hcy hww hwl hv] at hcap ⊢
   simp only [List.cons_append, List.nil_append]
   refine LJ_y rfl rfl (YJ_assign rfl) ?_
   refine LJ_nil ?_
   refine QJ_then ?_
   refine CJ_ret ?_
   refine QJ_fin (.inl rfl) (μ' := []) (μr := _) (φ' := [dF (some ⟨b1, 0, none⟩) (val l - val r)]) (res_tmp rfl rfl) (List.Perm.refl _) (AllIn.sub (And.intro (.head _) trivial)) ?_
   exact ⟨(_, _), hcap, rfl, rfl, rfl⟩
end Go.Proofs.Ytbanlhlggkdanaa
