/- The body of a loop over a function: what holds of operations anywhere holds of them in a round. -/
import Derived.Test.YtbanlhlggkdanaaBui
import Derived.RangeFuncNested
import Derived.RangeFuncFrom
import Derived.RangeFuncLeaves
import Derived.OrdersIn
import Derived.TacticsIn
set_option linter.unusedSimpArgs false
set_option linter.unusedVariables false
namespace Go.Proofs.Ytbanlhlggkdanaa
open Go.RowKit

/-- no fence, in a round of the loop l -/
def fen (l : Nat) : Fence := Fence.wide.inRound l
def noDefer (o : Oper) : Bool := match o.op with | .defer _ => false | _ => true
theorem noDefer_spec {o : Oper} (h : noDefer o = true) : ∀ c, o.op ≠ .defer c := fun c e => by
  unfold noDefer at h; rw [e] at h; cases h
theorem rows_in {l n : Nat} {P : Program} {row : String} {args : Array Value} {w : World} {R : Value → World → Prop} (h : Rows P row args w R) : RowsIn (fen l) n P row args w R := fun c cs _ =>
  let ⟨v, w', r, s⟩ := h c cs; ⟨v, w', r, stepsIn_wide.2 s⟩
theorem in_of_wp {l n : Nat} {P : Program} {o : Oper} {a : Act} {w : World} {K : Act → World → Prop} {Q : Exit → Act → World → Prop} (hd : noDefer o = true) (h : Oper.wp P o a w K Q) : Oper.wpIn (fen l) n P o a w K Q := by
  refine ⟨fun _ _ => trivial, ?_⟩
  rw [Oper.semAt_eq _ _ _ (noDefer_spec hd)]
  unfold Oper.wp at h
  generalize (execOp a.eval o).run P w = r at *
  cases r with
  | ok nx w' =>
    cases nx with
    | value v => exact h
    | skip => exact h
    | defer d => exact h
    | enter f args => exact ⟨fun hh => (by simp [fen, Fence.wide] at hh), CallsIn.inRound l (callsIn_wide.2 h)⟩
    | row r args => exact ⟨fun hh => (by simp [fen, Fence.wide] at hh), rows_in h⟩
    | _ => exact h.elim
  | halt x w' => cases x <;> first | exact h | exact h.elim
theorem listIn_of {l n : Nat} {P : Program} {ops : Array Oper} {Q : Exit → Act → World → Prop} (hq : ¬ LetsOut Q) : ∀ (os : List Oper) (a : Act) (w : World), os.all noDefer = true → wpList P ops Q os a w → wpListIn (fen l) n P ops Q os a w
  | [], _, _, _, h => h
  | o :: os, a, w, hd, h => by
    rw [List.all_cons, Bool.and_eq_true] at hd
    unfold wpList at h
    unfold wpListIn
    split
    · rename_i hw
      rw [if_pos hw] at h
      rcases h with h | h
      · exact in_of_wp hd.1 (Oper.wp_mono (fun a w h => listIn_of hq os a w hd.2 h) h)
      · exact absurd h.2 hq
    · rename_i hw
      rw [if_neg hw] at h
      exact ⟨fun _ _ => trivial, listIn_of hq os _ _ hd.2 h⟩
theorem opIn_of {l n : Nat} {P : Program} {ops : Array Oper} {Q : Exit → Act → World → Prop} (hq : ¬ LetsOut Q) (hd : ops.toList.all noDefer = true) {i : Nat} {K K' : Act → World → Prop} (hK : ∀ a w, K a w → K' a w) {a : Act} {w : World} (h : wpOp P ops Q i K a w) : wpOpIn (fen l) n P ops Q i K' a w := by
  unfold wpOp at h
  unfold wpOpIn
  cases hi : ops[i]? with
  | none => rw [hi] at h; exact hK _ _ h
  | some o =>
    rw [hi] at h
    dsimp only at h ⊢
    have ho : noDefer o = true := List.all_eq_true.1 hd o (Array.mem_toList_iff.2 (Array.mem_of_getElem? hi))
    split
    · rename_i hw
      rw [if_pos hw] at h
      rcases h with h | h
      · exact in_of_wp ho (Oper.wp_mono hK h)
      · exact absurd h.2 hq
    · rename_i hw
      rw [if_neg hw] at h
      exact ⟨fun _ _ => trivial, hK _ _ h⟩
theorem anyIn_of {l n : Nat} {P : Program} {ops : Array Oper} {Q : Exit → Act → World → Prop} (hq : ¬ LetsOut Q) (hd : ops.toList.all noDefer = true) : ∀ (fuel : Nat) (listed : Array Bool) (a : Act) (w : World), wpAny P .any ops Q fuel listed a w → wpAnyIn (fen l) n P .any ops Q fuel listed a w
  | 0, _, _, _, h => h
  | fuel + 1, _, _, _, h => ⟨h.1, fun i hi => opIn_of hq hd (fun a w h' => anyIn_of hq hd fuel _ a w h') (h.2 i hi)⟩

/-! ### code in a round -/
theorem no_then {K : Act → World → Prop} {Q : Exit → Act → World → Prop} (h : ¬ LetsOut Q) : ¬ LetsOut (Exit.then K Q) := fun ⟨a, w, q⟩ => h ⟨a, w, q⟩
theorem no_block {i : Nat} {Q : Exit → Act → World → Prop} (h : ¬ LetsOut Q) : ¬ LetsOut (Exit.inBlock i Q) := fun ⟨a, w, q⟩ => h ⟨a, w, q⟩
section
variable {E : Env} {Q : Qt} {ops : Array Oper} {l n : Nat} {σ : List (Nat × Value)} {μ φ : List Res}
def RJ (l n : Nat) (E : Env) (Q : Qt) (c : Code) (σ : List (Nat × Value)) (μ φ : List Res) : Prop := ¬ LetsOut Q → ∀ a w, OKa E σ a → OKm E μ φ w → c.wpIn (fen l) n E.P Q a w
theorem RJ_seq {x y : Code} (h : RJ l n E (Exit.then (y.wpIn (fen l) n E.P Q) Q) x σ μ φ) : RJ l n E Q (.seq x y) σ μ φ := fun hq a w ha hm => wpIn_seq (h (no_then hq) a w ha hm)
theorem RJ_skip (h : QJ E Q .normal σ μ φ) : RJ l n E Q .skip σ μ φ := fun _ a w ha hm => wpIn_skip (h a w ha hm)
theorem RJ_ret (h : QJ E Q .ret σ μ φ) : RJ l n E Q .ret σ μ φ := fun _ a w ha hm => wpIn_ret (h a w ha hm)
theorem RJ_exit {id : Nat} (h : QJ E Q (.exit id) σ μ φ) : RJ l n E Q (.exit id) σ μ φ := fun _ a w ha hm => wpIn_exit (h a w ha hm)
theorem RJ_label {id : Nat} (h : QJ E Q .normal σ μ φ) : RJ l n E Q (.label id) σ μ φ := fun _ a w ha hm => wpIn_label (h a w ha hm)
theorem RJ_block {id : Nat} {c : Code} (h : RJ l n E (Exit.inBlock id Q) c σ μ φ) : RJ l n E Q (.block id c) σ μ φ := fun hq a w ha hm => wpIn_block (h (no_block hq) a w ha hm)
theorem RJ_cond {c : Operand} {x y : Code} {b : Bool} (hc : oev σ c = some (.bool b)) (ht : b = true → RJ l n E Q x σ μ φ) (hf : b = false → RJ l n E Q y σ μ φ) : RJ l n E Q (.cond c x y) σ μ φ := fun hq a w ha hm =>
  wpIn_cond_split (ha.slots.ev hc) (fun h => ht h hq a w ha hm) (fun h => hf h hq a w ha hm)
theorem RJ_condT {c : Operand} {x y : Code} (hc : oev σ c = some (.bool true)) (ht : RJ l n E Q x σ μ φ) : RJ l n E Q (.cond c x y) σ μ φ := fun hq a w ha hm => wpIn_cond_true (ha.slots.ev hc) (ht hq a w ha hm)
theorem RJ_condF {c : Operand} {x y : Code} (hc : oev σ c = some (.bool false)) (hf : RJ l n E Q y σ μ φ) : RJ l n E Q (.cond c x y) σ μ φ := fun hq a w ha hm => wpIn_cond_false (ha.slots.ev hc) (hf hq a w ha hm)
theorem RJ_condT2 {c : Operand} {x y : Code} {b : Bool} (hc : oev σ c = some (.bool b)) (hb : b = true) (h : RJ l n E Q x σ μ φ) : RJ l n E Q (.cond c x y) σ μ φ := by
  subst hb; exact RJ_condT hc h
theorem RJ_condF2 {c : Operand} {x y : Code} {b : Bool} (hc : oev σ c = some (.bool b)) (hb : b = false) (h : RJ l n E Q y σ μ φ) : RJ l n E Q (.cond c x y) σ μ φ := by
  subst hb; exact RJ_condF hc h
theorem QJ_thenR {y : Code} (hq : ¬ LetsOut Q) (h : RJ l n E Q y σ μ φ) : QJ E (Exit.then (y.wpIn (fen l) n E.P Q) Q) .normal σ μ φ := fun a w ha hm => h hq a w ha hm
theorem RJ_reg {id : Nat} {os : List Oper} (hd : os.all noDefer = true) (h : LJ E Q os.toArray os σ μ φ) : RJ l n E Q (.region id os.toArray false) σ μ φ := fun hq a w ha hm => wpIn_region_lit (listIn_of hq os a w hd (h a w ha hm))
theorem RJ_regD {id : Nat} (hmix : E.P.follows .mixedOrders = true) (hs : Region.noSelect ops = true) (hQ : ∀ c a w d v, Q (.panic c) (a.put (some d) v) w → Q (.panic c) a w) (ml pl : List Res) (hml : ∀ r, r ∈ ml → r ∈ μ) (hpl : ∀ r, r ∈ pl → r ∈ φ) (hd : ops.toList.all noDefer = true)
    (h : AJ E Q ops ml pl ops.size (Array.replicate ops.size false) σ μ φ) : RJ l n E Q (.region id ops true) σ μ φ := fun hq a w ha hm =>
  wpIn_region_any hmix (anyIn_of hq hd _ _ _ _ (wpAny_of_held _ _ _ _ (h hs hQ hml hpl a w.drew ha hm.drew)))
theorem RJ_regD_seq {id : Nat} {os : List Oper} (hmix : E.P.follows .mixedOrders = true) (hs : seqOk os.toArray os.length 0 os.length = true) (hd : os.all noDefer = true) (h : LJ E Q os.toArray os σ μ φ) : RJ l n E Q (.region id os.toArray true) σ μ φ := fun hq a w ha hm => by
  refine wpIn_region_any hmix (anyIn_of hq (by simpa using hd) _ _ _ _ ?_)
  have hh := h a w.drew ha hm.drew
  have := wpAny_seq (P := E.P) (Q := Q) (ops := os.toArray) (n := os.length) (by simp) os 0 a w.drew (by simp) (by simp) hs hh
  simpa using this
theorem RJ_regM {id : Nat} (hmix : E.P.follows .mixedOrders = true) (hs : Region.noSelect ops = true) (hQ : ∀ c a w d v, Q (.panic c) (a.put (some d) v) w → Q (.panic c) a w) (hd : ops.toList.all noDefer = true) (dss : List (List Nat))
    (h : BJ E Q ops (mkM dss μ) φ ops.size (Array.replicate ops.size false) σ μ φ) : RJ l n E Q (.region id ops true) σ μ φ := fun hq a w ha hm =>
  wpIn_region_any hmix (anyIn_of hq hd _ _ _ _ (wpAny_of_M _ _ _ _ (h hs hQ (fun _ h => h) a w.drew ha hm.drew)))

open Classical in
theorem RJ_loop {ι : Type} (F : ι → St) (I : ι → Prop) (m : ι → Nat) {c : Code} (i0 : ι) {μr : List Res} (h0 : I i0) (hs : AllLk σ (F i0).σ) (hp : List.Perm μ ((F i0).μ ++ μr)) (hf : ∀ r, r ∈ (F i0).φ → r ∈ φ)
    (h : ∀ i, I i → RJ l n E (Exit.then (fun a' w' => ∃ j, I j ∧ m j < m i ∧ OKa E (F j).σ a' ∧ OKm E (F j).μ (F j).φ w') Q) c (F i).σ (F i).μ (F i).φ) : RJ l n E Q (.loop c) σ μ φ := fun hq a w ha hm => by
  have key : ∀ (a : Act) (w : World), (∃ i, I i ∧ OKa E (F i).σ a ∧ OKm E (F i).μ (F i).φ w) → ∃ n, ∃ i, I i ∧ m i = n ∧ OKa E (F i).σ a ∧ OKm E (F i).μ (F i).φ w := fun a w ⟨i, h1, h2, h3⟩ => ⟨m i, i, h1, rfl, h2, h3⟩
  have hmin : ∀ (a : Act) (w : World), (∃ n, ∃ i, I i ∧ m i = n ∧ OKa E (F i).σ a ∧ OKm E (F i).μ (F i).φ w) → ∃ n, (∃ i, I i ∧ m i = n ∧ OKa E (F i).σ a ∧ OKm E (F i).μ (F i).φ w) ∧ ∀ n', (∃ i, I i ∧ m i = n' ∧ OKa E (F i).σ a ∧ OKm E (F i).μ (F i).φ w) → n ≤ n' := by
    intro a w ⟨n, hn⟩
    induction n using Nat.strongRecOn with
    | _ n ih =>
      by_cases hex : ∃ n', n' < n ∧ ∃ i, I i ∧ m i = n' ∧ OKa E (F i).σ a ∧ OKm E (F i).μ (F i).φ w
      · obtain ⟨n', hlt, hn'⟩ := hex
        exact ih n' hlt hn'
      · exact ⟨n, hn, fun n' hn' => Nat.le_of_not_lt fun hlt => hex ⟨n', hlt, hn'⟩⟩
  let μm : Act → World → Nat := fun a w => if hx : ∃ n, ∃ i, I i ∧ m i = n ∧ OKa E (F i).σ a ∧ OKm E (F i).μ (F i).φ w then (hmin a w hx).choose else 0
  have hμ : ∀ (a : Act) (w : World), (∃ i, I i ∧ OKa E (F i).σ a ∧ OKm E (F i).μ (F i).φ w) → (∃ i, I i ∧ m i = μm a w ∧ OKa E (F i).σ a ∧ OKm E (F i).μ (F i).φ w) ∧ ∀ i, I i → OKa E (F i).σ a → OKm E (F i).μ (F i).φ w → μm a w ≤ m i := by
    intro a w hx
    have hx' := key a w hx
    have hs := (hmin a w hx').choose_spec
    have e : μm a w = (hmin a w hx').choose := dif_pos hx'
    rw [e]
    exact ⟨hs.1, fun i h1 h2 h3 => hs.2 (m i) ⟨i, h1, rfl, h2, h3⟩⟩
  refine wpIn_loop (fun a w => ∃ i, I i ∧ OKa E (F i).σ a ∧ OKm E (F i).μ (F i).φ w) μm ⟨i0, h0, ⟨ha.defs, ha.siz, ha.slots.weak hs⟩, hm.weak hp hf⟩ ?_
  intro a w hI
  obtain ⟨⟨i, h1, h2, h3, h4⟩, _⟩ := hμ a w hI
  refine wpIn_mono (h i h1 (no_then hq) a w h3 h4) ?_
  intro e a' w' q
  cases e with
  | normal =>
    obtain ⟨j, k1, k2, k3, k4⟩ := q
    have hJ : ∃ i, I i ∧ OKa E (F i).σ a' ∧ OKm E (F i).μ (F i).φ w' := ⟨j, k1, k3, k4⟩
    refine ⟨hJ, ?_⟩
    have := (hμ a' w' hJ).2 j k1 k3 k4
    omega
  | _ => exact q
end
end Go.Proofs.Ytbanlhlggkdanaa
