/- Regions that draw their order and make variables among calls: the variables may be made at any time. No law is proved here. -/
import Derived.Test.YtbanlhlggkdanaaOps
set_option linter.unusedSimpArgs false
set_option linter.unusedVariables false
namespace Go.Proofs.Ytbanlhlggkdanaa
open Go.RowKit

/-- a variable that is made in a region: the operation's number, its slot, its type, its cells -/
structure Al where
  i : Nat
  d : Tmp
  t : TypeId
  cs : Array Value

def lsB : List Al → List Bool → Array Bool → Array Bool
  | a :: A, b :: bs, L => lsB A bs (bif b then L.setIfInBounds a.i true else L)
  | _, _, L => L
def pendB : List Al → List Bool → List Nat
  | a :: A, b :: bs => bif b then pendB A bs else a.i :: pendB A bs
  | _, _ => []
def σA : List Al → List (Option Nat) → List (Nat × Value)
  | a :: A, some b :: st => (a.d, .pointer (some ⟨b, 0, none⟩)) :: σA A st
  | _ :: A, none :: st => σA A st
  | _, _ => []
def μA : List Al → List (Option Nat) → List Res
  | a :: A, some b :: st => cellsR b a.cs a.t :: μA A st
  | _ :: A, none :: st => μA A st
  | _, _ => []
def bts (st : List (Option Nat)) : List Bool := st.map (·.isSome)
def pend : List (Option Nat) → Nat
  | [] => 0
  | some _ :: st => pend st
  | none :: st => pend st + 1
def allBits : Nat → (List Bool → Bool) → Bool
  | 0, f => f []
  | n + 1, f => allBits n (fun bs => f (true :: bs)) && allBits n (fun bs => f (false :: bs))
theorem allBits_spec : ∀ (n : Nat) (f : List Bool → Bool), allBits n f = true → ∀ bs, bs.length = n → f bs = true
  | 0, f, h, bs, hb => by
    have : bs = [] := List.eq_nil_of_length_eq_zero hb
    subst this; exact h
  | n + 1, f, h, b :: bs, hb => by
    simp only [allBits, Bool.and_eq_true] at h
    have hb' : bs.length = n := by simpa using hb
    cases b
    · exact allBits_spec n _ h.2 bs hb'
    · exact allBits_spec n _ h.1 bs hb'

/-- each is an operation of the region that makes a variable, unguarded -/
def AlOk (P : Program) (ops : Array Oper) : List Al → Prop
  | [] => True
  | a :: A => (∃ v ty pos af, ops[a.i]? = some ⟨some a.d, .alloc a.t, ty, pos, af, none⟩ ∧ zer P a.t = some v ∧ v.cells = a.cs) ∧ AlOk P ops A
def dsts (A : List Al) : List Nat := A.map (·.d)
def nodupB : List Nat → Bool
  | [] => true
  | d :: ds => !(ds.contains d) && nodupB ds

section
variable {E : Env} {Q : Qt} {ops : Array Oper} {ml pl : List Res}

theorem lsB_set (A : List Al) : ∀ (bs : List Bool) (L : Array Bool) (i : Nat), lsB A bs (L.setIfInBounds i true) = (lsB A bs L).setIfInBounds i true := by
  induction A with
  | nil => intro bs L i; rfl
  | cons a A ih =>
    intro bs L i
    cases bs with
    | nil => rfl
    | cons b bs =>
      cases b
      · exact ih bs L i
      · show lsB A bs ((L.setIfInBounds i true).setIfInBounds a.i true) = (lsB A bs (L.setIfInBounds a.i true)).setIfInBounds i true
        by_cases e : i = a.i
        · subst e; rw [ih, ih]
        · rw [Array.setIfInBounds_comm _ _ e]; exact ih bs _ i

/-- making the k-th: its place among the pending ones -/
theorem pend_at {P : Program} : ∀ (A : List Al) (st : List (Option Nat)) (j : Nat), st.length = A.length → AlOk P ops A → j ∈ pendB A (bts st) →
    ∃ (k : Nat) (al : Al), A[k]? = some al ∧ st[k]? = some none ∧ al.i = j ∧ ∃ v ty pos af, ops[j]? = some ⟨some al.d, .alloc al.t, ty, pos, af, none⟩ ∧ zer P al.t = some v ∧ v.cells = al.cs
  | [], st, j, _, _, h => by cases st <;> simp [pendB, bts] at h
  | a :: A, s :: st, j, hl, hok, h => by
    cases s with
    | some b =>
      have h' : j ∈ pendB A (bts st) := h
      obtain ⟨k, al, h1, h2, h3⟩ := pend_at A st j (by simpa using hl) hok.2 h'
      exact ⟨k + 1, al, by simpa using h1, by simpa using h2, h3⟩
    | none =>
      have h' : j ∈ a.i :: pendB A (bts st) := h
      rcases List.mem_cons.1 h' with rfl | h'
      · exact ⟨0, a, rfl, rfl, rfl, hok.1⟩
      · obtain ⟨k, al, h1, h2, h3⟩ := pend_at A st j (by simpa using hl) hok.2 h'
        exact ⟨k + 1, al, by simpa using h1, by simpa using h2, h3⟩
theorem lsB_make : ∀ (A : List Al) (st : List (Option Nat)) (k : Nat) (al : Al) (b : Nat) (L : Array Bool), A[k]? = some al → st[k]? = some none →
    lsB A (bts (st.set k (some b))) L = (lsB A (bts st) L).setIfInBounds al.i true
  | [], st, k, al, b, L, h, _ => by simp at h
  | a :: A, [], k, al, b, L, _, h => by simp at h
  | a :: A, s :: st, 0, al, b, L, h, h' => by
    simp only [List.getElem?_cons_zero, Option.some.injEq] at h h'
    subst h; subst h'
    exact lsB_set A (bts st) L a.i
  | a :: A, s :: st, k + 1, al, b, L, h, h' => by
    simp only [List.getElem?_cons_succ] at h h'
    exact lsB_make A st k al b _ h h'
theorem μA_make : ∀ (A : List Al) (st : List (Option Nat)) (k : Nat) (al : Al) (b : Nat), A[k]? = some al → st[k]? = some none →
    List.Perm (cellsR b al.cs al.t :: μA A st) (μA A (st.set k (some b)))
  | [], st, k, al, b, h, _ => by simp at h
  | a :: A, [], k, al, b, _, h => by simp at h
  | a :: A, s :: st, 0, al, b, h, h' => by
    simp only [List.getElem?_cons_zero, Option.some.injEq] at h h'
    subst h; subst h'
    exact List.Perm.refl _
  | a :: A, s :: st, k + 1, al, b, h, h' => by
    simp only [List.getElem?_cons_succ] at h h'
    have ih := μA_make A st k al b h h'
    cases s with
    | none => exact ih
    | some c => exact (List.Perm.swap _ _ _).trans (ih.cons _)
theorem σA_make : ∀ (A : List Al) (st : List (Option Nat)) (k : Nat) (al : Al) (b : Nat) (a : Act), A[k]? = some al → st[k]? = some none → nodupB (dsts A) = true → (∀ x ∈ A, x.d < a.tmps.size) →
    Slots (σA A st) a → Slots (σA A (st.set k (some b))) (a.put (some al.d) (.pointer (some ⟨b, 0, none⟩)))
  | A, st, k, al, b, a, h, h', hn, hd, hs => by
    have hal : al ∈ A := List.mem_of_getElem? h
    have key : ∀ t v, lk t (σA A (st.set k (some b))) = some v → (t = al.d ∧ v = .pointer (some ⟨b, 0, none⟩)) ∨ (t ≠ al.d ∧ lk t (σA A st) = some v) := by
      clear hs hd
      induction A generalizing st k with
      | nil => simp at h
      | cons x A ih =>
        cases st with
        | nil => simp at h'
        | cons s st =>
          simp only [dsts, List.map_cons, nodupB, Bool.and_eq_true, Bool.not_eq_true'] at hn
          cases k with
          | zero =>
            simp only [List.getElem?_cons_zero, Option.some.injEq] at h h'
            subst h; subst h'
            intro t v hv
            have hv' : lk t ((x.d, .pointer (some ⟨b, 0, none⟩)) :: σA A st) = some v := hv
            simp only [lk] at hv'
            cases hb : Nat.beq t x.d with
            | true =>
              rw [hb] at hv'
              simp only [cond_true, Option.some.injEq] at hv'
              exact .inl ⟨Nat.eq_of_beq_eq_true hb, hv'.symm⟩
            | false =>
              rw [hb] at hv'
              simp only [cond_false] at hv'
              refine .inr ⟨fun e => ?_, hv'⟩
              subst e
              rw [Nat.beq_refl] at hb
              cases hb
          | succ k =>
            simp only [List.getElem?_cons_succ] at h h'
            have hal' : al ∈ A := List.mem_of_getElem? h
            have hne : x.d ≠ al.d := fun e => by
              have h1 : (List.map (·.d) A).contains x.d = true := by
                rw [List.contains_iff_mem, e]
                exact List.mem_map.2 ⟨al, hal', rfl⟩
              rw [h1] at hn
              exact absurd hn.1 (by simp)
            have ih' := ih st k h h' hn.2 hal'
            cases s with
            | none => exact ih'
            | some c =>
              intro t v hv
              have hv' : lk t ((x.d, .pointer (some ⟨c, 0, none⟩)) :: σA A (st.set k (some b))) = some v := hv
              simp only [lk] at hv'
              cases hb : Nat.beq t x.d with
              | true =>
                rw [hb] at hv'
                simp only [cond_true, Option.some.injEq] at hv'
                have e := Nat.eq_of_beq_eq_true hb
                refine .inr ⟨fun e' => hne (e ▸ e'), ?_⟩
                show lk t ((x.d, .pointer (some ⟨c, 0, none⟩)) :: σA A st) = some v
                simp only [lk, hb, cond_true, hv']
              | false =>
                rw [hb] at hv'
                simp only [cond_false] at hv'
                rcases ih' t v hv' with h1 | ⟨h1, h2⟩
                · exact .inl h1
                · refine .inr ⟨h1, ?_⟩
                  show lk t ((x.d, .pointer (some ⟨c, 0, none⟩)) :: σA A st) = some v
                  simp only [lk, hb, cond_false, h2]
    intro t v hv
    rcases key t v hv with ⟨rfl, rfl⟩ | ⟨h1, h2⟩
    · simp [Act.put, hd al hal]
    · have := hs t v h2
      simp only [Act.put]
      rw [Array.getElem?_setIfInBounds_ne (Ne.symm h1)]
      exact this
theorem pend_set : ∀ (st : List (Option Nat)) (k b : Nat), st[k]? = some none → pend st = pend (st.set k (some b)) + 1
  | [], k, b, h => by simp at h
  | s :: st, 0, b, h => by
    simp only [List.getElem?_cons_zero, Option.some.injEq] at h
    subst h; rfl
  | s :: st, k + 1, b, h => by
    simp only [List.getElem?_cons_succ] at h
    have ih := pend_set st k b h
    cases s with
    | none => simp only [List.set_cons_succ, pend]; omega
    | some c => simp only [List.set_cons_succ, pend]; omega

/-- where some variables may be made, or not yet -/
def AA (E : Env) (Q : Qt) (ops : Array Oper) (ml pl : List Res) (A : List Al) (fuel : Nat) (L : Array Bool) (σ : List (Nat × Value)) (μ φ : List Res) : Prop :=
  AlOk E.P ops A → nodupB (dsts A) = true → A.all (fun x => Nat.blt x.d E.N) = true → Region.noSelect ops = true → (∀ c a w d v, Q (.panic c) (a.put (some d) v) w → Q (.panic c) a w) → (∀ r, r ∈ ml → r ∈ μ) → (∀ r, r ∈ pl → r ∈ φ) →
  ∀ st, st.length = A.length → ∀ a w, OKa E σ a → Slots (σA A st) a → OKm E (μA A st ++ μ) φ w →
    wpAnyH E.P .any ops Q (fun w => Hold w ml ∧ Hold w pl) (fuel + pend st) (lsB A (bts st) L) a w

theorem lk_none_ne {σ : List (Nat × Value)} {d t : Nat} {v : Value} (h : lk d σ = none) (hv : lk t σ = some v) : t ≠ d := fun e => by
  subst e; rw [h] at hv; cases hv
/-- the slots of the variables are not among the others -/
def Frs (σ : List (Nat × Value)) : List Al → Bool
  | [] => true
  | a :: A => (lk a.d σ).isNone && Frs σ A
theorem Frs.ne {σ : List (Nat × Value)} : ∀ {A : List Al}, Frs σ A = true → ∀ al ∈ A, lk al.d σ = none
  | a :: A, h, al, hal => by
    simp only [Frs, Bool.and_eq_true] at h
    rcases List.mem_cons.1 hal with rfl | hal
    · exact Option.isNone_iff_eq_none.1 h.1
    · exact Frs.ne h.2 al hal
theorem σA_keys : ∀ {A : List Al} {st : List (Option Nat)} {t : Nat} {v : Value}, lk t (σA A st) = some v → ∃ al ∈ A, al.d = t
  | [], st, t, v, h => by cases st <;> simp [σA, lk] at h
  | a :: A, [], t, v, h => by simp [σA, lk] at h
  | a :: A, none :: st, t, v, h => by
    obtain ⟨al, h1, h2⟩ := σA_keys (A := A) (st := st) h
    exact ⟨al, .tail _ h1, h2⟩
  | a :: A, some b :: st, t, v, h => by
    have h' : lk t ((a.d, .pointer (some ⟨b, 0, none⟩)) :: σA A st) = some v := h
    simp only [lk] at h'
    cases hb : Nat.beq t a.d with
    | true => exact ⟨a, .head _, (Nat.eq_of_beq_eq_true hb).symm⟩
    | false =>
      rw [hb] at h'
      simp only [cond_false] at h'
      obtain ⟨al, h1, h2⟩ := σA_keys h'
      exact ⟨al, .tail _ h1, h2⟩
theorem Slots.putA {A : List Al} {st : List (Option Nat)} {a : Act} (h : Slots (σA A st) a) {d : Nat} (hd : (dsts A).contains d = false) (v : Value) : Slots (σA A st) (a.put (some d) v) := fun t u hu => by
  have := h t u hu
  obtain ⟨al, h1, h2⟩ := σA_keys hu
  have hne : t ≠ d := fun e => by
    subst e
    have : (dsts A).contains t = true := by rw [List.contains_iff_mem, ← h2]; exact List.mem_map.2 ⟨al, h1, rfl⟩
    rw [this] at hd; cases hd
  simp only [Act.put]
  rw [Array.getElem?_setIfInBounds_ne (Ne.symm hne)]
  exact this

variable {A : List Al} {fuel : Nat} {L : Array Bool} {σ : List (Nat × Value)} {μ φ : List Res}

/-- one of the pending variables is made -/
theorem AA_alloc (hok : AlOk E.P ops A) (hnd : nodupB (dsts A) = true) (hfr : Frs σ A = true) (hsz : A.all (fun x => Nat.blt x.d E.N) = true)
    (hml : ∀ r, r ∈ ml → r ∈ μ) (hpl : ∀ r, r ∈ pl → r ∈ φ) {st : List (Option Nat)} (hst : st.length = A.length) {j : Nat} (hj : j ∈ pendB A (bts st)) {n : Nat} {a : Act} {w : World} (ha : OKa E σ a) (hs : Slots (σA A st) a) (hm : OKm E (μA A st ++ μ) φ w)
    (hrec : ∀ st', st'.length = A.length → pend st = pend st' + 1 → ∀ a w, OKa E σ a → Slots (σA A st') a → OKm E (μA A st' ++ μ) φ w → lsB A (bts st') L = (lsB A (bts st) L).setIfInBounds j true → wpAnyH E.P .any ops Q (fun w => Hold w ml ∧ Hold w pl) n (lsB A (bts st') L) a w) :
    wpOp E.P ops Q j (fun a' w' => (Hold w' ml ∧ Hold w' pl) ∧ wpAnyH E.P .any ops Q (fun w => Hold w ml ∧ Hold w pl) n ((lsB A (bts st) L).setIfInBounds j true) a' w') a w := by
  obtain ⟨k, al, h1, h2, rfl, v, ty, pos, af, h3, h4, h5⟩ := pend_at (P := E.P) (ops := ops) A st j hst hok hj
  have hal : al ∈ A := List.mem_of_getElem? h1
  unfold wpOp
  rw [h3]
  dsimp only
  rw [if_pos (by simp [Region.wanted])]
  refine .inl (OJ_alloc (σ := σ) h4 a w _ _ _ _ _ _ ha.slots hm ?_)
  rintro _ μ'' φ'' w' ⟨b, rfl, hμ, hφ⟩ hm'
  rw [hμ, hφ] at hm'
  have hd : al.d < a.tmps.size := by
    rw [ha.siz]
    exact Nat.le_of_ble_eq_true (List.all_eq_true.1 hsz al hal)
  have hperm : List.Perm (cellsR b v.cells al.t :: (μA A st ++ μ)) (μA A (st.set k (some b)) ++ μ) := by
    rw [h5]
    exact (μA_make A st k al b h1 h2).append_right μ
  have hm2 : OKm E (μA A (st.set k (some b)) ++ μ) φ w' := hm'.weak (μr := []) (by simpa using hperm) (fun _ h => h)
  have hin : ∀ r, r ∈ ml → r ∈ μA A (st.set k (some b)) ++ μ := fun r hr => List.mem_append_right _ (hml r hr)
  have hls := lsB_make A st k al b L h1 h2
  refine ⟨⟨hm2.hold.1.sub hin, hm2.hold.2.sub hpl⟩, ?_⟩
  rw [← hls]
  refine hrec (st.set k (some b)) (by simpa using hst) (pend_set st k b h2) _ _ ⟨by rw [Act.defers_put]; exact ha.defs, by rw [Act.size_put]; exact ha.siz, ?_⟩ ?_ hm2 hls
  · intro t u hu
    have := ha.slots t u hu
    have hne : t ≠ al.d := lk_none_ne (Frs.ne hfr al hal) hu
    simp only [Act.put]
    rw [Array.getElem?_setIfInBounds_ne (Ne.symm hne)]
    exact this
  · exact σA_make A st k al b a h1 h2 hnd (fun x hx => by rw [ha.siz]; exact Nat.le_of_ble_eq_true (List.all_eq_true.1 hsz x hx)) hs

/-- the region begins -/
theorem CJ_regDA {id : Nat} (hmix : E.P.follows .mixedOrders = true) (hs : Region.noSelect ops = true) (hQ : ∀ c a w d v, Q (.panic c) (a.put (some d) v) w → Q (.panic c) a w) (ml pl : List Res) (hml : ∀ r, r ∈ ml → r ∈ μ) (hpl : ∀ r, r ∈ pl → r ∈ φ)
    (A : List Al) (n : Nat) (hn : ops.size = n + A.length) (hok : AlOk E.P ops A) (hnd : nodupB (dsts A) = true) (hsz : A.all (fun x => Nat.blt x.d E.N) = true) (h : AA E Q ops ml pl A n (Array.replicate ops.size false) σ μ φ) : CJ E Q (.region id ops true) σ μ φ := fun a w ha hm => by
  refine wp_region_held (S := fun w => Hold w ml ∧ Hold w pl) hmix ?_
  have hp : ∀ (A : List Al), pend (A.map fun _ => none) = A.length := by
    intro A; induction A with
    | nil => rfl
    | cons x A ih => simp [pend, ih]
  have hb : ∀ (A : List Al) (L : Array Bool), lsB A (bts (A.map fun _ => none)) L = L := by
    intro A; induction A with
    | nil => intro L; rfl
    | cons x A ih => intro L; exact ih L
  have hs0 : ∀ (A : List Al), σA A (A.map fun _ => none) = [] := by
    intro A; induction A with
    | nil => rfl
    | cons x A ih => exact ih
  have hm0 : ∀ (A : List Al), μA A (A.map fun _ => none) = [] := by
    intro A; induction A with
    | nil => rfl
    | cons x A ih => exact ih
  have := h hok hnd hsz hs hQ hml hpl (A.map fun _ => none) (by simp) a w.drew ha (by rw [hs0]; intro t v hv; cases hv) (by rw [hm0]; exact hm.drew)
  rw [hp, hb, ← hn] at this
  exact this

/-- an operation that yields a value -/
theorem AA_y (i : Nat) {d : Tmp} {op : Op} {ty : TypeId} {pos : String} {af : Array Edge} {g : Option (Nat × Bool)} {v : Value} (hi : ops[i]? = some ⟨some d, op, ty, pos, af, g⟩)
    (hc : allBits A.length (fun bs => Region.free .any ops (lsB A bs L) i && (Region.ready .any ops (lsB A bs L)).contains i) = true)
    (hg : grd ops σ g = some true) (hd : Nat.blt d E.N = true) (hda : (dsts A).contains d = false) (hy : YJ E op ty σ ml pl v)
    (h : AA E Q ops ml pl A fuel (L.setIfInBounds i true) ((d, v) :: σ) μ φ) : AA E Q ops ml pl A (fuel + 1) L σ μ φ := fun hok hnd hsz hsel hQ hml hpl st hst a w ha hs hm => by
  have hcc := allBits_spec _ _ hc (bts st) (by simpa [bts] using hst)
  simp only [Bool.and_eq_true] at hcc
  have hin : ∀ r, r ∈ ml → r ∈ μA A st ++ μ := fun r hr => List.mem_append_right _ (hml r hr)
  have hrec := h hok hnd hsz hsel hQ hml hpl st hst (a.put (some d) v) w (ha.put hd v) (hs.putA hda v) hm
  rw [lsB_set] at hrec
  rw [show fuel + 1 + pend st = (fuel + pend st) + 1 by omega]
  exact wpAnyH_take hi hsel hcc.1 hcc.2 (fun c a w => hQ c a w _ _) (.inl ⟨grd_wanted (o := ⟨some d, op, ty, pos, af, g⟩) ha hg, fun w' hw' => hy a w' _ _ _ _ ha.slots hw'.1 hw'.2⟩)
    ⟨hm.hold.1.sub hin, hm.hold.2.sub hpl⟩ hrec

theorem AA_skip (i : Nat) {d : Tmp} {op : Op} {ty : TypeId} {pos : String} {af : Array Edge} {g : Option (Nat × Bool)} (hi : ops[i]? = some ⟨some d, op, ty, pos, af, g⟩)
    (hc : allBits A.length (fun bs => Region.free .any ops (lsB A bs L) i && (Region.ready .any ops (lsB A bs L)).contains i) = true)
    (hg : grd ops σ g = some false) (hd : Nat.blt d E.N = true) (hda : (dsts A).contains d = false)
    (h : AA E Q ops ml pl A fuel (L.setIfInBounds i true) ((d, undef) :: σ) μ φ) : AA E Q ops ml pl A (fuel + 1) L σ μ φ := fun hok hnd hsz hsel hQ hml hpl st hst a w ha hs hm => by
  have hcc := allBits_spec _ _ hc (bts st) (by simpa [bts] using hst)
  simp only [Bool.and_eq_true] at hcc
  have hin : ∀ r, r ∈ ml → r ∈ μA A st ++ μ := fun r hr => List.mem_append_right _ (hml r hr)
  have hrec := h hok hnd hsz hsel hQ hml hpl st hst (a.put (some d) undef) w (ha.put hd undef) (hs.putA hda undef) hm
  rw [lsB_set] at hrec
  rw [show fuel + 1 + pend st = (fuel + pend st) + 1 by omega]
  exact wpAnyH_take hi hsel hcc.1 hcc.2 (fun c a w => hQ c a w _ _) (.inr ⟨grd_wanted (o := ⟨some d, op, ty, pos, af, g⟩) ha hg, rfl⟩)
    ⟨hm.hold.1.sub hin, hm.hold.2.sub hpl⟩ hrec

/-- an operation that changes the world, but not what the call owns: whatever else it owns -/
theorem AA_o (i : Nat) {d : Tmp} {op : Op} {ty : TypeId} {pos : String} {af : Array Edge} {g : Option (Nat × Bool)} {C : Value → List Res → Prop} (hi : ops[i]? = some ⟨some d, op, ty, pos, af, g⟩)
    (hc : allBits A.length (fun bs => (Region.ready .any ops (lsB A bs L)).all (fun j => Nat.beq j i || (pendB A bs).contains j) && !(Region.ready .any ops (lsB A bs L)).isEmpty) = true)
    (hfr : Frs σ A = true)
    (hg : grd ops σ g = some true) (hd : Nat.blt d E.N = true) (hda : (dsts A).contains d = false) (ho : ∀ μ', OJ E op ty σ μ' φ (fun v μ'' φ' => C v φ' ∧ μ'' = μ'))
    (h : ∀ v φ', C v φ' → (∀ r, r ∈ pl → r ∈ φ → r ∈ φ') ∧ AA E Q ops ml pl A fuel (L.setIfInBounds i true) ((d, v) :: σ) μ φ') : AA E Q ops ml pl A (fuel + 1) L σ μ φ := fun hok hnd hsz hsel hQ hml hpl => by
  have main : ∀ n st, pend st = n → st.length = A.length → ∀ a w, OKa E σ a → Slots (σA A st) a → OKm E (μA A st ++ μ) φ w → wpAnyH E.P .any ops Q (fun w => Hold w ml ∧ Hold w pl) (fuel + 1 + pend st) (lsB A (bts st) L) a w := by
    intro n
    induction n with
    | zero => ?_
    | succ n ih => ?_
    all_goals
      intro st hn hst a w ha hs hm
      have hcc := allBits_spec _ _ hc (bts st) (by simpa [bts] using hst)
      simp only [Bool.and_eq_true, Bool.not_eq_true', List.all_eq_true, Bool.or_eq_true] at hcc
      rw [show fuel + 1 + pend st = (fuel + pend st) + 1 by omega]
      refine wpAnyH_all rfl (fun e => by rw [e] at hcc; simp at hcc) fun j hj => ?_
      by_cases hji : j = i
      · subst hji
        unfold wpOp
        rw [hi]
        dsimp only
        rw [if_pos (grd_wanted (o := ⟨some d, op, ty, pos, af, g⟩) ha hg)]
        refine .inl (ho (μA A st ++ μ) a w _ _ _ _ _ _ ha.slots hm ?_)
        rintro v μ' φ' w' ⟨hC, rfl⟩ hm'
        obtain ⟨k1, k2⟩ := h v φ' hC
        have hin : ∀ r, r ∈ ml → r ∈ μA A st ++ μ := fun r hr => List.mem_append_right _ (hml r hr)
        have e2 : ∀ r, r ∈ pl → r ∈ φ' := fun r hr => k1 r hr (hpl r hr)
        have hrec := k2 hok hnd hsz hsel hQ hml e2 st hst (a.put (some d) v) w' (ha.put hd v) (hs.putA hda v) hm'
        rw [lsB_set] at hrec
        exact ⟨⟨hm'.hold.1.sub hin, hm'.hold.2.sub e2⟩, hrec⟩
      · have hjp : j ∈ pendB A (bts st) := by
          rcases hcc.1 j hj with h' | h'
          · exact absurd (Nat.eq_of_beq_eq_true h') hji
          · exact List.contains_iff_mem.1 h'
        refine AA_alloc hok hnd hfr hsz hml hpl hst hjp ha hs hm ?_
        intro st' hst' hp' a' w' ha' hs' hm' _
        first
          | (exfalso; omega)
          | (have := ih st' (by omega) hst' a' w' ha' hs' hm'
             rw [show fuel + pend st = fuel + 1 + pend st' by omega]
             exact this)
  intro st hst a w ha hs hm
  exact main _ st rfl hst a w ha hs hm

/-- now all variables are made -/
theorem AA_end (hc : allBits A.length (fun bs => bs.all id || ((Region.ready .any ops (lsB A bs L)).all (fun j => (pendB A bs).contains j) && !(Region.ready .any ops (lsB A bs L)).isEmpty)) = true)
    (hfr : Frs σ A = true)
    (h : ∀ bs : List Nat, bs.length = A.length → AJ E Q ops ml pl fuel (lsB A (bts (bs.map some)) L) (σA A (bs.map some) ++ σ) (μA A (bs.map some) ++ μ) φ) : AA E Q ops ml pl A fuel L σ μ φ := fun hok hnd hsz hsel hQ hml hpl => by
  have hall : ∀ (st : List (Option Nat)), (bts st).all id = true → ∃ bs : List Nat, st = bs.map some ∧ pend st = 0 := by
    intro st
    induction st with
    | nil => intro _; exact ⟨[], rfl, rfl⟩
    | cons s st ih =>
      intro hh
      cases s with
      | none => simp [bts] at hh
      | some b =>
        obtain ⟨bs, h1, h2⟩ := ih (by simpa [bts] using hh)
        exact ⟨b :: bs, by simp [h1], h2⟩
  have main : ∀ n st, pend st = n → st.length = A.length → ∀ a w, OKa E σ a → Slots (σA A st) a → OKm E (μA A st ++ μ) φ w → wpAnyH E.P .any ops Q (fun w => Hold w ml ∧ Hold w pl) (fuel + pend st) (lsB A (bts st) L) a w := by
    intro n
    induction n with
    | zero => ?_
    | succ n ih => ?_
    all_goals
      intro st hn hst a w ha hs hm
      have hcc := allBits_spec _ _ hc (bts st) (by simpa [bts] using hst)
      by_cases hb : (bts st).all id = true
      · obtain ⟨bs, rfl, hp0⟩ := hall st hb
        rw [hp0, Nat.add_zero]
        refine h bs (by simpa using hst) hsel hQ (fun r hr => List.mem_append_right _ (hml r hr)) hpl a w ⟨ha.defs, ha.siz, ?_⟩ hm
        intro t v hv
        have happ : ∀ (l r : List (Nat × Value)), lk t (l ++ r) = some v → lk t l = some v ∨ (lk t l = none ∧ lk t r = some v) := by
          intro l r
          induction l with
          | nil => intro hh; exact .inr ⟨rfl, hh⟩
          | cons p l ihl =>
            intro hh
            obtain ⟨pk, pv⟩ := p
            simp only [List.cons_append, lk] at hh ⊢
            cases hbb : Nat.beq t pk with
            | true => rw [hbb] at hh; exact .inl hh
            | false => rw [hbb] at hh; exact ihl hh
        rcases happ _ _ hv with h1 | ⟨_, h1⟩
        · exact hs t v h1
        · exact ha.slots t v h1
      · simp only [hb, Bool.false_or, Bool.and_eq_true, Bool.not_eq_true', List.all_eq_true] at hcc
        first
          | (exfalso
             have hz : ∀ (st : List (Option Nat)), pend st = 0 → (bts st).all id = true := by
               intro st
               induction st with
               | nil => intro _; rfl
               | cons s st ih =>
                 intro hh
                 cases s with
                 | none => simp [pend] at hh
                 | some b => simpa [bts] using ih hh
             exact hb (hz st hn))
          | (rw [show fuel + pend st = (fuel + n) + 1 by omega]
             refine wpAnyH_all rfl (fun e => by rw [e] at hcc; simp at hcc) fun j hj => ?_
             refine AA_alloc hok hnd hfr hsz hml hpl hst (List.contains_iff_mem.1 (hcc.1 j hj)) ha hs hm ?_
             intro st' hst' hp' a' w' ha' hs' hm' _
             have := ih st' (by omega) hst' a' w' ha' hs' hm'
             rw [show fuel + n = fuel + pend st' by omega]
             exact this)
  intro st hst a w ha hs hm
  exact main _ st rfl hst a w ha hs hm

theorem AA_call0 {x : Operand} {xs : Array Operand} {at_ : Array TypeId} {f : FuncId} {cap : Array Value} {vs vs' : List Value} {φ1 : List Res} {v0 : Value} {d : Tmp} {ty : TypeId} {pos : String} {af : Array Edge} {g : Option (Nat × Bool)} (i : Nat) (hi : ops[i]? = some ⟨some d, .call { callee := .value x, args := xs, argTypes := at_ }, ty, pos, af, g⟩)
    (hc : allBits A.length (fun bs => (Region.ready .any ops (lsB A bs L)).all (fun j => Nat.beq j i || (pendB A bs).contains j) && !(Region.ready .any ops (lsB A bs L)).isEmpty) = true) (hfr : Frs σ A = true)
    (hg : grd ops σ g = some true) (hd : Nat.blt d E.N = true) (hda : (dsts A).contains d = false)
    (hx : oev σ x = some (.func (.func f) #[] cap)) (hxs : oevs σ xs.toList = some vs) (hv : vs ++ cap.toList = vs') (ht : Tri E.P f vs' [] φ1 (Ret0 v0)) (hφ : ∀ r, r ∈ φ1 → r ∈ φ)
    (h : AA E Q ops ml pl A fuel (L.setIfInBounds i true) ((d, v0) :: σ) μ φ) : AA E Q ops ml pl A (fuel + 1) L σ μ φ := by
  subst hv
  refine AA_o (C := fun v φ' => v = v0 ∧ φ' = φ) i hi hc hfr hg hd hda (fun μ' => ?_) (by rintro _ _ ⟨rfl, rfl⟩; exact ⟨fun _ _ h => h, h⟩)
  intro a w d pos af g K Q hs hm hK
  exact OJ_call (μr := μ') hx hxs ht (List.Perm.refl _) hφ a w d pos af g K Q hs hm (by
    rintro v _ _ w' ⟨_, _, ⟨rfl, rfl, rfl⟩, rfl, rfl⟩ hm'
    exact hK _ _ _ _ ⟨⟨rfl, rfl⟩, rfl⟩ hm')
theorem AA_callX {ι : Type} {C : ι → Prop} {fv : ι → Value} {gf : ι → List Res} {x : Operand} {xs : Array Operand} {at_ : Array TypeId} {f : FuncId} {cap : Array Value} {vs vs' : List Value} {φ1 : List Res} {d : Tmp} {ty : TypeId} {pos : String} {af : Array Edge} {g : Option (Nat × Bool)} (i : Nat) (hi : ops[i]? = some ⟨some d, .call { callee := .value x, args := xs, argTypes := at_ }, ty, pos, af, g⟩)
    (hc : allBits A.length (fun bs => (Region.ready .any ops (lsB A bs L)).all (fun j => Nat.beq j i || (pendB A bs).contains j) && !(Region.ready .any ops (lsB A bs L)).isEmpty) = true) (hfr : Frs σ A = true)
    (hg : grd ops σ g = some true) (hd : Nat.blt d E.N = true) (hda : (dsts A).contains d = false)
    (hx : oev σ x = some (.func (.func f) #[] cap)) (hxs : oevs σ xs.toList = some vs) (hv : vs ++ cap.toList = vs') (ht : Tri E.P f vs' [] φ1 (RetX C fv (fun _ => []) gf)) (hφ : ∀ r, r ∈ φ1 → r ∈ φ)
    (h : ∀ x, C x → AA E Q ops ml pl A fuel (L.setIfInBounds i true) ((d, fv x) :: σ) μ (gf x ++ φ)) : AA E Q ops ml pl A (fuel + 1) L σ μ φ := by
  subst hv
  refine AA_o (C := fun v φ' => ∃ x, C x ∧ v = fv x ∧ φ' = gf x ++ φ) i hi hc hfr hg hd hda (fun μ' => ?_) (by rintro _ _ ⟨x, hx, rfl, rfl⟩; exact ⟨fun _ _ h => List.mem_append_right _ h, h x hx⟩)
  intro a w d pos af g K Q hs hm hK
  exact OJ_call (μr := μ') hx hxs ht (List.Perm.refl _) hφ a w d pos af g K Q hs hm (by
    rintro v _ _ w' ⟨_, _, ⟨x, hx, rfl, rfl, rfl⟩, rfl, rfl⟩ hm'
    exact hK _ _ _ _ ⟨⟨x, hx, rfl, rfl⟩, rfl⟩ hm')
theorem AA_bool {d : Nat} {b c : Bool} (hb : b = c) (h : AA E Q ops ml pl A fuel L ((d, .bool c) :: σ) μ φ) : AA E Q ops ml pl A fuel L ((d, .bool b) :: σ) μ φ := by subst hb; exact h
theorem AA_boolC {d : Nat} {b : Bool} (ht : b = true → AA E Q ops ml pl A fuel L ((d, .bool true) :: σ) μ φ) (hf : b = false → AA E Q ops ml pl A fuel L ((d, .bool false) :: σ) μ φ) : AA E Q ops ml pl A fuel L ((d, .bool b) :: σ) μ φ := by
  cases b
  · exact hf rfl
  · exact ht rfl
theorem AA_val {d : Nat} {u v : Value} (hb : u = v) (h : AA E Q ops ml pl A fuel L ((d, v) :: σ) μ φ) : AA E Q ops ml pl A fuel L ((d, u) :: σ) μ φ := by subst hb; exact h
end
theorem len_1 {l : List Nat} (h : l.length = 1) : ∃ a, l = [a] := by
  match l, h with
  | [a], _ => exact ⟨a, rfl⟩
theorem len_2 {l : List Nat} (h : l.length = 2) : ∃ a b, l = [a, b] := by
  match l, h with
  | [a, b], _ => exact ⟨a, b, rfl⟩
theorem len_3 {l : List Nat} (h : l.length = 3) : ∃ a b c, l = [a, b, c] := by
  match l, h with
  | [a, b, c], _ => exact ⟨a, b, c, rfl⟩
theorem len_4 {l : List Nat} (h : l.length = 4) : ∃ a b c d, l = [a, b, c, d] := by
  match l, h with
  | [a, b, c, d], _ => exact ⟨a, b, c, d, rfl⟩
end Go.Proofs.Ytbanlhlggkdanaa
