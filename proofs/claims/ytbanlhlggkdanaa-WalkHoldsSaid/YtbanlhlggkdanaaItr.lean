/- Loops over functions: the contract of a round, of an iterator, and the loop itself. -/
import Derived.Test.YtbanlhlggkdanaaMsh
import Derived.LoopNIn
set_option linter.unusedSimpArgs false
set_option linter.unusedVariables false
namespace Go.Proofs.Ytbanlhlggkdanaa
open Go.RowKit

/-- block b is just this object -/
def objR (b : Nat) (o : Obj) : Res where
  p w S := w.heap[b]? = some o ∧ ∀ k, S k ↔ k = b
  loc := fun {w w' S} ⟨h, hs⟩ hk => ⟨(hk b ((hs b).2 rfl)).trans h, hs⟩
  lt := fun {w S k} ⟨h, hs⟩ hk => by
    have e := (hs k).1 hk
    subst e
    rcases Nat.lt_or_ge k w.heap.size with h' | h'
    · exact h'
    · rw [Array.getElem?_eq_none h'] at h; cases h
/-- the block that holds a loop's deferred calls: none -/
abbrev defR (D : Nat) : Res := objR D (.deferred (some []))
def markD (D : Nat) : Deferred := { target := .collected D, args := #[] }

/-! ### what a call leaves -/
def TP (w0 : World) (S0 T0 : Nat → Prop) (post : Value → List Res → List Res → Prop) : Ending → World → Prop := fun e w' =>
  ∃ v μ' φ', e = .returned v ∧ post v μ' φ' ∧ Keeps S0 w0 w' ∧
      ∃ S' T' : Nat → Prop, Sep w' μ' S' ∧ Fac w' φ' T' ∧ (∀ k, S' k → ¬ T' k) ∧ (∀ k, S' k → S0 k ∨ w0.heap.size ≤ k) ∧ (∀ k, T' k → T0 k ∨ S0 k ∨ w0.heap.size ≤ k) ∧ ∀ k, T' k → k < w'.heap.size
/-- a round's contract -/
def YTri (P : Program) (l : Nat) (args : List Value) (μ φ : List Res) (post : Value → List Res → List Res → Prop) : Prop :=
  ∀ (w : World) (S T : Nat → Prop), Sep w μ S → Fac w φ T → (∀ k, S k → ¬ T k) → (∀ k, T k → k < w.heap.size) →
    ∃ fn tmps assign body, (Instr.yield l args.toArray).run P w = .ok (.round l fn tmps assign body) w ∧ RoundIn Fence.wide 0 P l fn tmps assign body w (TP w S T post)
/-- an iterator's contract -/
def ITri (P : Program) {α : Type} (gf : FuncId) (lb : List Value) (enc : α → List Value) (xs : List α) (φg : List Res) : Prop :=
  Enter P gf = true ∧ ∀ (l : Nat) (J Jx : List α → List Res → List Res → Prop) (φx : List Res),
    (∀ pre x μ φ, (pre ++ [x]) <+: xs → J pre μ φ → YTri P l (enc x) μ (φ ++ (φg ++ φx)) (fun v μ' φ' => (v = .bool true ∧ J (pre ++ [x]) μ' φ') ∨ (v = .bool false ∧ Jx (pre ++ [x]) μ' φ'))) →
    ∀ μ φ, J [] μ φ → Tri P gf (.func (.yield l) #[] #[] :: lb) μ (φ ++ (φg ++ φx)) (fun _ μ' φ' => J xs μ' φ' ∨ ∃ pre, pre <+: xs ∧ Jx pre μ' φ')

section
variable {E : Env} {Q : Qt} {σ : List (Nat × Value)} {μ φ : List Res}

theorem OKm.tp {w : World} (h : OKm E μ φ w) {μ' φ' μr : List Res} {v : Value} {post : Value → List Res → List Res → Prop} (hp : List.Perm μ (μ' ++ μr)) (hf : ∀ r, r ∈ φ' → r ∈ φ) (hpost : post v μ' φ') : TP E.w0 E.S0 E.T0 post (.returned v) w := by
  have hw := h.weak hp hf
  obtain ⟨S, T, h1, h2, h3, h4, h5, h6⟩ := hw.mem
  exact ⟨v, μ', φ', rfl, hpost, hw.keeps, S, T, h1, h2, h3, h4, h5, h6⟩

/-- some of the own resources are lent to a call -/
theorem OKm.lend {w : World} (hm : OKm E μ φ w) {μ1 μr φ1 : List Res} (hμ : List.Perm μ (μ1 ++ μr)) (hφ : ∀ r, r ∈ φ1 → r ∈ φ) :
    ∃ S1 T : Nat → Prop, Sep w μ1 S1 ∧ Fac w φ1 T ∧ (∀ k, S1 k → ¬ T k) ∧ (∀ k, T k → k < w.heap.size) ∧
      ∀ (w' : World) (μ' φ' : List Res), Keeps S1 w w' → (∃ S' T' : Nat → Prop, Sep w' μ' S' ∧ Fac w' φ' T' ∧ (∀ k, S' k → ¬ T' k) ∧ (∀ k, S' k → S1 k ∨ w.heap.size ≤ k) ∧ (∀ k, T' k → T k ∨ S1 k ∨ w.heap.size ≤ k) ∧ ∀ k, T' k → k < w'.heap.size) →
        OKm E (μ' ++ μr) (φ' ++ φ) w' := by
  obtain ⟨S, T, h1, h2, h3, h4, h5, h6⟩ := hm.mem
  obtain ⟨S1, S2, g1, g2, gd, gs⟩ := (h1.perm hμ).split
  refine ⟨S1, T, g1, fun r hr => h2 r (hφ r hr), fun k hk => h3 k ((gs k).2 (.inl hk)), h6, ?_⟩
  rintro w' μ' φ' hkeep ⟨S', T', k1, k2, k3, k4, k5, k6⟩
  have hS2lt : ∀ k, S2 k → k < w.heap.size := fun k hk => g2.lt hk
  have hfr : ∀ k, S2 k → w'.heap[k]? = w.heap[k]? := fun k hk => hkeep.block k (hS2lt k hk) (fun hh => gd k hh hk)
  have hd2 : ∀ k, S' k → ¬ S2 k := fun k hk hk2 => by
    rcases k4 k hk with h' | h'
    · exact gd k h' hk2
    · have := hS2lt k hk2; omega
  refine ⟨hm.keeps.trans hkeep (fun k hk => h4 k ((gs k).2 (.inl hk))), fun k => S' k ∨ S2 k, fun k => T' k ∨ T k, k1.app (g2.keep hfr) hd2, ?_, ?_, ?_, ?_, ?_⟩
  · intro r hr
    rcases List.mem_append.1 hr with hr | hr
    · obtain ⟨S3, a1, a2⟩ := k2 r hr
      exact ⟨S3, a1, fun k hk => .inl (a2 k hk)⟩
    · obtain ⟨S3, a1, a2⟩ := h2 r hr
      exact ⟨S3, r.loc a1 (fun k hk => hkeep.block k (r.lt a1 hk) (fun hh => h3 k ((gs k).2 (.inl hh)) (a2 k hk))), fun k hk => .inr (a2 k hk)⟩
  · rintro k (hS | hS) (hT | hT)
    · exact k3 k hS hT
    · rcases k4 k hS with h' | h'
      · exact h3 k ((gs k).2 (.inl h')) hT
      · have := h6 k hT; omega
    · rcases k5 k hT with h' | h' | h'
      · exact h3 k ((gs k).2 (.inr hS)) h'
      · exact gd k h' hS
      · have := hS2lt k hS; omega
    · exact h3 k ((gs k).2 (.inr hS)) hT
  · rintro k (hS | hS)
    · rcases k4 k hS with h' | h'
      · exact h4 k ((gs k).2 (.inl h'))
      · exact .inr (by have := hm.keeps.size; omega)
    · exact h4 k ((gs k).2 (.inr hS))
  · rintro k (hT | hT)
    · rcases k5 k hT with h' | h' | h'
      · exact h5 k h'
      · exact .inr (h4 k ((gs k).2 (.inl h')))
      · exact .inr (.inr (by have := hm.keeps.size; omega))
    · exact h5 k hT
  · rintro k (hT | hT)
    · exact k6 k hT
    · exact Nat.lt_of_lt_of_le (h6 k hT) hkeep.size

/-- a new object -/
theorem OKm.newObj {w : World} (h : OKm E μ φ w) (o : Obj) : OKm E (objR w.heap.size o :: μ) φ (w.alloc o) := by
  have h' := h.step (Keeps.alloc w o _)
  obtain ⟨S, T, h1, h2, h3, h4, h5, h6⟩ := h.mem
  have hk : ∀ k, k < w.heap.size → (w.alloc o).heap[k]? = w.heap[k]? := fun k hk => Below.heap_alloc w _ k hk
  refine ⟨h'.keeps, fun k => k = w.heap.size ∨ S k, T, ⟨fun k => k = w.heap.size, S, ⟨heap_alloc_new w _, fun _ => Iff.rfl⟩, h1.keep (fun k hS => hk k (h1.lt hS)), fun k e hS => ?_, fun _ => Iff.rfl⟩, fun r hr => ?_, fun k hS hT => ?_, fun k hS => ?_, h5, fun k hT => by have := h6 k hT; simp; omega⟩
  · have := h1.lt hS; omega
  · obtain ⟨S', a, b⟩ := h2 r hr
    exact ⟨S', r.loc a (fun k hS => hk k (r.lt a hS)), b⟩
  · rcases hS with e | hS
    · have := h6 k hT; omega
    · exact h3 k hS hT
  · rcases hS with e | hS
    · exact .inr (by have := h.keeps.size; omega)
    · exact h4 k hS
theorem OKm.objAt {w : World} {b : Nat} {o : Obj} (h : OKm E (objR b o :: μ) φ w) : w.heap[b]? = some o := by
  obtain ⟨S, T, ⟨S1, S2, h1, _⟩, _⟩ := h.mem
  exact h1.1
/-- an object becomes another one -/
theorem OKm.putObj {w : World} {b : Nat} {o : Obj} (h : OKm E (objR b o :: μ) φ w) (o' : Obj) : OKm E (objR b o' :: μ) φ (w.putObj b o') := by
  obtain ⟨S, T, ⟨S1, S2, ⟨k1, k2⟩, k3, k4, k5⟩, g2, g3, g4, g5, g6⟩ := h.mem
  have hSb : S b := (k5 b).2 (.inl ((k2 b).2 rfl))
  have hlt : b < w.heap.size := (Array.getElem?_eq_some_iff.1 k1).1
  have ho : ∀ k, k ≠ b → (w.putObj b o').heap[k]? = w.heap[k]? := fun k hk => World.putObj_heap_other hk
  refine ⟨⟨h.keeps.os, h.keeps.tape, h.keeps.output, by simpa using h.keeps.size, fun k hk hn => ?_⟩, S, T, ⟨S1, S2, ⟨World.putObj_heap_same hlt, k2⟩, k3.keep (fun k hS => ho k (fun e => ?_)), k4, k5⟩, ?_, g3, g4, g5, fun k hT => by simpa using g6 k hT⟩
  · have hkb : k ≠ b := by
      rintro rfl
      rcases g4 k hSb with h' | h'
      · exact hn h'
      · omega
    exact (ho k hkb).trans (h.keeps.block k hk hn)
  · subst e
    exact k4 k ((k2 k).2 rfl) hS
  · intro r hr
    obtain ⟨S', a, b'⟩ := g2 r hr
    refine ⟨S', r.loc a (fun k hS => ho k (fun e => ?_)), b'⟩
    subst e
    exact g3 k hSb (b' k hS)

/-! ### a call of yield -/
def LY (E : Env) (Q : Qt) (ops : Array Oper) (l : List Oper) (σ : List (Nat × Value)) (μ φ : List Res) : Prop := ∀ a w, OKa E σ a → OKm E μ φ w → wpListIn Fence.wide 0 E.P ops Q l a w
variable {ops : Array Oper} {rest : List Oper} {d : Tmp} {op : Op} {ty : TypeId} {pos : String} {af : Array Edge} {g : Option (Nat × Bool)}
theorem LY_nil (h : QJ E Q .normal σ μ φ) : LY E Q ops [] σ μ φ := fun a w ha hm => h a w ha hm
theorem LY_y {v : Value} (hg : grd ops σ g = some true) (hd : Nat.blt d E.N = true)
    (hy : YJ E op ty σ μ φ v) (h : LY E Q ops rest ((d, v) :: σ) μ φ) : LY E Q ops (⟨some d, op, ty, pos, af, g⟩ :: rest) σ μ φ := fun a w ha hm => by
  unfold wpListIn
  rw [if_pos (grd_wanted (o := ⟨some d, op, ty, pos, af, g⟩) ha hg)]
  refine ⟨fun _ _ => trivial, ?_⟩
  rw [show Fence.wide.round = none from rfl, Oper.semAt_none, hy a w (some d) pos af g ha.slots hm.hold.1 hm.hold.2]
  exact h _ _ (ha.put hd v) hm
theorem LY_skip (hg : grd ops σ g = some false) (hd : Nat.blt d E.N = true)
    (h : LY E Q ops rest ((d, undef) :: σ) μ φ) : LY E Q ops (⟨some d, op, ty, pos, af, g⟩ :: rest) σ μ φ := fun a w ha hm => by
  unfold wpListIn
  rw [if_neg (by rw [grd_wanted (o := ⟨some d, op, ty, pos, af, g⟩) ha hg]; simp)]
  exact ⟨fun _ _ => trivial, h _ _ (ha.put hd undef) hm⟩
theorem LY_bool {b c : Bool} (hb : b = c) (h : LY E Q ops rest ((d, .bool c) :: σ) μ φ) : LY E Q ops rest ((d, .bool b) :: σ) μ φ := by subst hb; exact h
theorem LY_yield {x : Operand} {xs : Array Operand} {at_ : Array TypeId} {l : Nat} {vs : List Value} {μ1 μr φ1 : List Res} {post : Value → List Res → List Res → Prop} (hg : grd ops σ g = some true) (hd : Nat.blt d E.N = true)
    (hx : oev σ x = some (.func (.yield l) #[] #[])) (hxs : oevs σ xs.toList = some vs)
    (ht : YTri E.P l vs μ1 φ1 post) (hμ : List.Perm μ (μ1 ++ μr)) (hφ : ∀ r, r ∈ φ1 → r ∈ φ)
    (h : ∀ v μ' φ', post v μ' φ' → LY E Q ops rest ((d, v) :: σ) (μ' ++ μr) (φ' ++ φ)) : LY E Q ops (⟨some d, .call { callee := .value x, args := xs, argTypes := at_ }, ty, pos, af, g⟩ :: rest) σ μ φ := fun a w ha hm => by
  unfold wpListIn
  rw [if_pos (grd_wanted (o := ⟨some d, .call { callee := .value x, args := xs, argTypes := at_ }, ty, pos, af, g⟩) ha hg)]
  refine ⟨fun _ _ => trivial, ?_⟩
  rw [show Fence.wide.round = none from rfl, Oper.semAt_none]
  obtain ⟨S1, T, h1, h2, h3, h4, h5⟩ := hm.lend hμ hφ
  obtain ⟨fn, tmps, assign, body, hy, hR⟩ := ht w S1 T h1 h2 h3 h4
  have hargs : (xs.map a.eval) = vs.toArray := by
    have := ha.slots.evs hxs
    apply Array.toList_inj.1
    simp [this]
  have hrun : (execOp a.eval ⟨some d, .call { callee := .value x, args := xs, argTypes := at_ }, ty, pos, af, g⟩).run E.P w = .ok (.round l fn tmps assign body) w := by
    simp only [execOp, resolve, ha.slots.ev hx, Deferred.ofValue, Sem.run_bind, Sem.run_pure, Result.andThen_ok, invoke]
    have e : (#[] ++ Array.map a.eval xs) = vs.toArray := by rw [← hargs]; simp
    rw [e]
    exact hy
  rw [hrun, Oper.uponIn_round]
  refine ⟨fun hh => (by simp [Fence.wide] at hh), hR.mono ?_⟩
  rintro e w' ⟨v, μ', φ', rfl, hpost, hkeep, hrest⟩
  exact h v μ' φ' hpost _ _ (ha.put hd v) (h5 w' μ' φ' hkeep hrest)
theorem LY_boolC {b : Bool} (ht : b = true → LY E Q ops rest ((d, .bool true) :: σ) μ φ) (hf : b = false → LY E Q ops rest ((d, .bool false) :: σ) μ φ) : LY E Q ops rest ((d, .bool b) :: σ) μ φ := by
  cases b
  · exact hf rfl
  · exact ht rfl
theorem LY_val {u v : Value} (hb : u = v) (h : LY E Q ops rest ((d, v) :: σ) μ φ) : LY E Q ops rest ((d, u) :: σ) μ φ := by subst hb; exact h
theorem in_wide {P : Program} {o : Oper} {a : Act} {w : World} {K : Act → World → Prop} {Q : Exit → Act → World → Prop} (h : Oper.wp P o a w K Q) : Oper.wpIn Fence.wide 0 P o a w K Q := by
  refine ⟨fun _ _ => trivial, ?_⟩
  rw [show Fence.wide.round = none from rfl, Oper.semAt_none]
  unfold Oper.wp at h
  generalize (execOp a.eval o).run P w = r at *
  cases r with
  | ok nx w' =>
    cases nx with
    | value v => exact h
    | skip => exact h
    | defer d => exact h
    | enter f args => exact ⟨fun hh => (by simp [Fence.wide] at hh), callsIn_wide.2 h⟩
    | row r args => exact ⟨fun hh => (by simp [Fence.wide] at hh), fun c cs _ => let ⟨v, w', r, s⟩ := h c cs; ⟨v, w', r, stepsIn_wide.2 s⟩⟩
    | _ => exact h.elim
  | halt x w' => cases x <;> first | exact h | exact h.elim
theorem LY_o {X : Value → List Res → List Res → Prop} (hg : grd ops σ g = some true) (hd : Nat.blt d E.N = true)
    (ho : OJ E op ty σ μ φ X) (h : ∀ v μ' φ', X v μ' φ' → LY E Q ops rest ((d, v) :: σ) μ' φ') : LY E Q ops (⟨some d, op, ty, pos, af, g⟩ :: rest) σ μ φ := fun a w ha hm => by
  unfold wpListIn
  rw [if_pos (grd_wanted (o := ⟨some d, op, ty, pos, af, g⟩) ha hg)]
  exact in_wide (ho a w _ _ _ _ _ _ ha.slots hm fun v μ' φ' w' hx hm' => h v μ' φ' hx _ _ (ha.put hd v) hm')
theorem LY_call0 {x : Operand} {xs : Array Operand} {at_ : Array TypeId} {f : FuncId} {cap : Array Value} {vs vs' : List Value} {φ1 : List Res} {v0 : Value} (hg : grd ops σ g = some true) (hd : Nat.blt d E.N = true)
    (hx : oev σ x = some (.func (.func f) #[] cap)) (hxs : oevs σ xs.toList = some vs) (hv : vs ++ cap.toList = vs') (ht : Tri E.P f vs' [] φ1 (Ret0 v0)) (hφ : ∀ r, r ∈ φ1 → r ∈ φ)
    (h : LY E Q ops rest ((d, v0) :: σ) μ φ) : LY E Q ops (⟨some d, .call { callee := .value x, args := xs, argTypes := at_ }, ty, pos, af, g⟩ :: rest) σ μ φ := by
  subst hv
  exact LY_o hg hd (OJ_call (μr := μ) hx hxs ht (List.Perm.refl _) hφ) (by rintro _ _ _ ⟨_, _, ⟨rfl, rfl, rfl⟩, rfl, rfl⟩; exact h)
theorem YJ_makeFunc {f : Fn} {fs cs : Array Operand} {vs us : List Value} (hf : oevs σ fs.toList = some vs) (hc : oevs σ cs.toList = some us) : YJ E (.makeFunc f fs cs) ty σ μ φ (.func f vs.toArray us.toArray) := fun a w d pos af g hs _ _ => by
  have h1 : fs.map a.eval = vs.toArray := by
    have := hs.evs hf
    apply Array.toList_inj.1
    simp [this]
  have h2 : cs.map a.eval = us.toArray := by
    have := hs.evs hc
    apply Array.toList_inj.1
    simp [this]
  simp only [execOp]
  rw [h1, h2]
  simp [Instr.makeFunc]
theorem CJ_regY {id : Nat} {l : List Oper} (h : LY E Q l.toArray l σ μ φ) : CJ E Q (.region id l.toArray false) σ μ φ := fun a w ha hm => (wpIn_wide (n := 0)).1 (wpIn_region_lit (h a w ha hm))

/-! ### the loop -/
def putS : List (Nat × Value) → List (Nat × Value) → List (Nat × Value)
  | [], σ => σ
  | (p, v) :: r, σ => putS r ((p, v) :: σ)
theorem putS_ok : ∀ (l : List (Nat × Value)) {σ : List (Nat × Value)} {a : Act}, OKa E σ a → l.all (fun p => Nat.blt p.1 E.N) = true →
    OKa E (putS l σ) { a with tmps := l.foldl (fun t (p, v) => t.setIfInBounds p v) a.tmps }
  | [], _, _, h, _ => h
  | (p, v) :: r, σ, a, h, hb => by
    rw [List.all_cons, Bool.and_eq_true] at hb
    exact putS_ok r (h.put hb.1 v) hb.2

def recL (fn : FuncId) (tmps : Array Value) (ps : Array Tmp) (assign body : Code) (D : Nat) (st : LoopState) (jump : Option Code) : Obj :=
  .loop { state := st, pending := jump, fn, tmps, params := ps, assign, body, defers := D }
theorem no_round {P : Program} {l : Nat} {R : Ending → World → Prop} : ¬ LetsOut (roundPost P l R) := fun ⟨_, _, h⟩ => h
theorem no_begin {K : Act → World → Prop} : ¬ LetsOut (Exit.then K fun _ _ _ => False) := fun ⟨_, _, h⟩ => h

/-- what a round must come to -/
abbrev RPost (E : Env) (l : Nat) (post : Value → List Res → List Res → Prop) : Qt := roundPost E.P l (TP E.w0 E.S0 E.T0 post)
/-- behind the assignments: the round begins -/
abbrev Begun (E : Env) (l : Nat) (body : Code) (post : Value → List Res → List Res → Prop) : Qt :=
  Exit.then (fun a₁ w₁ => ∃ w₂, (Instr.beginRound l).run E.P w₁ = .ok () w₂ ∧ body.wpIn (Fence.wide.inRound l) 0 E.P (RPost E l post) a₁ w₂) (fun _ _ _ => False)
theorem QJ_begin {l : Nat} {body : Code} {post : Value → List Res → List Res → Prop} {fn : FuncId} {tmps : Array Value} {ps : Array Tmp} {asg bd : Code} {D : Nat} {μr : List Res}
    (hp : List.Perm μ (objR l (recL fn tmps ps asg bd D .ready none) :: μr)) (h : RJ l 0 E (RPost E l post) body σ (objR l (recL fn tmps ps asg bd D .busy none) :: μr) φ) : QJ E (Begun E l body post) .normal σ μ φ := fun a w ha hm => by
  have hm' : OKm E (objR l (recL fn tmps ps asg bd D .ready none) :: μr) φ w := hm.weak (μr := []) (by simpa using hp) (fun _ h => h)
  exact ⟨_, run_beginRound hm'.objAt rfl, h no_round a _ ha (hm'.putObj _)⟩
theorem QJ_again {l : Nat} {post : Value → List Res → List Res → Prop} {fn : FuncId} {tmps : Array Value} {ps : Array Tmp} {asg bd : Code} {D : Nat} {μ1 μ2 φ1 : List Res}
    (hp : List.Perm μ (objR l (recL fn tmps ps asg bd D .busy none) :: (μ1 ++ μ2))) (hf : ∀ r, r ∈ φ1 → r ∈ φ) (h : post (.bool true) (objR l (recL fn tmps ps asg bd D .ready none) :: μ1) φ1) : QJ E (RPost E l post) .normal σ μ φ := fun a w ha hm => by
  have hm' : OKm E (objR l (recL fn tmps ps asg bd D .busy none) :: (μ1 ++ μ2)) φ w := hm.weak (μr := []) (by simpa using hp) (fun _ h => h)
  exact ⟨_, _, run_endRound none hm'.objAt, (hm'.putObj _).tp (μr := μ2) (by simp [recL]) hf h⟩
def jumpOf : Exit → Option Code
  | .ret => some .ret
  | .exit id => some (.exit id)
  | _ => none
theorem QJ_leave {l : Nat} {post : Value → List Res → List Res → Prop} {fn : FuncId} {tmps : Array Value} {ps : Array Tmp} {asg bd : Code} {D : Nat} {μ1 μ2 φ1 : List Res} {e : Exit} {j : Code} (he : jumpOf e = some j)
    (hp : List.Perm μ (objR l (recL fn tmps ps asg bd D .busy none) :: (μ1 ++ μ2))) (hf : ∀ r, r ∈ φ1 → r ∈ φ) (h : post (.bool false) (objR l (recL fn tmps ps asg bd D .done (some j)) :: μ1) φ1) : QJ E (RPost E l post) e σ μ φ := fun a w ha hm => by
  have hm' : OKm E (objR l (recL fn tmps ps asg bd D .busy none) :: (μ1 ++ μ2)) φ w := hm.weak (μr := []) (by simpa using hp) (fun _ h => h)
  have key : ∃ v w', (Instr.endRound l (some j)).run E.P w = .ok v w' ∧ TP E.w0 E.S0 E.T0 post (.returned v) w' :=
    ⟨_, _, run_endRound (some j) hm'.objAt, (hm'.putObj _).tp (μr := μ2) (by simp [recL]) hf h⟩
  cases e <;> simp [jumpOf] at he <;> subst he <;> exact key

/-- the states of a loop over a function: between two rounds, and where it has been left -/
structure LpS (α : Type) where
  ι : Type
  I : List α → ι → Prop
  F : List α → ι → List Res × List Res
  κ : Type
  Ix : Code → List α → κ → Prop
  Fx : Code → κ → List Res × List Res

/-- what a round of a loop comes to -/
def LpS.post {α : Type} (L : LpS α) (l D : Nat) (fn : FuncId) (tmps : Array Value) (ps : Array Tmp) (asg bd : Code) (pre : List α) : Value → List Res → List Res → Prop := fun v μ' φ' =>
  (v = .bool true ∧ ∃ i, L.I pre i ∧ μ' = objR l (recL fn tmps ps asg bd D .ready none) :: defR D :: (L.F pre i).1 ∧ φ' = (L.F pre i).2) ∨
  (v = .bool false ∧ ∃ c i, L.Ix c pre i ∧ μ' = objR l (recL fn tmps ps asg bd D .done (some c)) :: defR D :: (L.Fx c i).1 ∧ φ' = (L.Fx c i).2)

theorem CJ_rangeFunc {α : Type} {x : Operand} {ps : Array Tmp} {assign body : Code} {gf : FuncId} {lb : Array Value} {enc : α → List Value} {xs : List α} {φg : List Res}
    (hx : oev σ x = some (.func (.func gf) #[] lb)) (hit : ITri E.P gf lb.toList enc xs φg) (hφg : ∀ r, r ∈ φg → r ∈ φ)
    (hN : ∀ x, (enc x).length = ps.size) (hps : ps.toList.all (fun p => Nat.blt p E.N) = true) (L : LpS α) (i0 : L.ι) (h0 : L.I [] i0) {μr : List Res} (hp : List.Perm μ ((L.F [] i0).1 ++ μr)) (hf : ∀ r, r ∈ (L.F [] i0).2 → r ∈ φ)
    (hround : ∀ (l D : Nat) (fn : FuncId) (tmps : Array Value) (W : World) (S T : Nat → Prop) (pre : List α) (x : α) (i : L.ι), (pre ++ [x]) <+: xs → L.I pre i →
      RJ l 0 ⟨E.P, W, S, T, E.N, []⟩ (Begun ⟨E.P, W, S, T, E.N, []⟩ l body (L.post l D fn tmps ps assign body (pre ++ [x]))) assign (putS (ps.toList.zip (enc x)) σ) (objR l (recL fn tmps ps assign body D .ready none) :: defR D :: (L.F pre i).1) ((L.F pre i).2 ++ φ))
    (hdone : ∀ (D : Nat) (i : L.ι), L.I xs i → QJ { E with ds := markD D :: E.ds } Q .normal σ (defR D :: ((L.F xs i).1 ++ μr)) ((L.F xs i).2 ++ φ))
    (hstop : ∀ (D : Nat) (c : Code) (pre : List α) (i : L.κ), pre <+: xs → L.Ix c pre i → CJ { E with ds := markD D :: E.ds } Q c σ (defR D :: ((L.Fx c i).1 ++ μr)) ((L.Fx c i).2 ++ φ)) :
    CJ E Q (.rangeFunc x ps assign body) σ μ φ := fun a w ha hm => (wpIn_wide (n := 0)).1 <| wpIn_rangeFunc <| by
  intro fn _
  have hent := hit.1
  obtain ⟨D, hD⟩ : ∃ D, w.heap.size = D := ⟨_, rfl⟩
  have hm1 := (hm.newObj (.deferred (some []))).newObj (recL fn a.tmps ps assign body w.heap.size .ready none)
  obtain ⟨W1, hW1⟩ : ∃ W1, (w.alloc (.deferred (some []))).alloc (recL fn a.tmps ps assign body w.heap.size .ready none) = W1 := ⟨_, rfl⟩
  rw [hW1, World.size_alloc, hD] at hm1
  refine ⟨D + 1, [markD D], W1, { target := .fn (.func gf) lb, args := #[.func (.yield (D + 1)) #[] #[]] }, W1, gf, #[.func (.yield (D + 1)) #[] #[]] ++ lb, W1, ?_, ?_, fun _ _ => trivial, ?_, fun hh => (by simp [Fence.wide] at hh), ?_⟩
  · rw [← hW1, ← hD]
    exact run_enterLoop_outer fn a.tmps ps assign body
  · simp only [resolve, ha.slots.ev hx]
    simp [go_sem]
  · simp [invoke, go_sem, run_enter hent]
  · rw [callsIn_wide]
    obtain ⟨S1, T, h1, h2, h3, h4, h5⟩ := hm1.lend (μ1 := objR (D + 1) (recL fn a.tmps ps assign body D .ready none) :: defR D :: (L.F [] i0).1) (μr := μr) (φ1 := (L.F [] i0).2 ++ (φg ++ φ))
      ((hp.cons _).cons _) (fun r hr => by
        rcases List.mem_append.1 hr with hr | hr
        · exact hf r hr
        · rcases List.mem_append.1 hr with hr | hr
          · exact hφg r hr
          · exact hr)
    have hT := hit.2 (D + 1) (fun pre μ φ' => ∃ i, L.I pre i ∧ μ = objR (D + 1) (recL fn a.tmps ps assign body D .ready none) :: defR D :: (L.F pre i).1 ∧ φ' = (L.F pre i).2)
      (fun pre μ φ' => ∃ c i, L.Ix c pre i ∧ μ = objR (D + 1) (recL fn a.tmps ps assign body D .done (some c)) :: defR D :: (L.Fx c i).1 ∧ φ' = (L.Fx c i).2) φ ?_ _ _ ⟨i0, h0, rfl, rfl⟩
    · have ha1 : (#[Value.func (.yield (D + 1)) #[] #[]] ++ lb) = (Value.func (.yield (D + 1)) #[] #[] :: lb.toList).toArray := by
        apply Array.toList_inj.1; simp
      rw [ha1]
      refine (hT.2 W1 S1 T h1 h2 h3 h4).mono ?_
      rintro e w' ⟨v, μ', φ', rfl, hpost, hkeep, hrest⟩
      have hm2 := h5 w' μ' φ' hkeep hrest
      have hOKa : OKa { E with ds := markD D :: E.ds } σ { a with defers := [markD D] ++ a.defers } := ⟨by rw [ha.defs]; rfl, ha.siz, ha.slots⟩
      rcases hpost with ⟨i, hI, rfl, rfl⟩ | ⟨pre, hpre, c, i, hI, rfl, rfl⟩
      · have hm3 : OKm E (objR (D + 1) (recL fn a.tmps ps assign body D .ready none) :: (defR D :: (L.F xs i).1 ++ μr)) ((L.F xs i).2 ++ φ) w' := hm2
        refine ⟨none, _, run_endLoop hm3.objAt (by simp), ?_⟩
        have hm4 := (hm3.putObj (.loop { state := .exhausted, pending := none, fn := fn, tmps := a.tmps, params := ps, assign := assign, body := body, defers := D })).weak (μ' := defR D :: ((L.F xs i).1 ++ μr)) (μr := [objR (D + 1) (.loop { state := .exhausted, pending := none, fn := fn, tmps := a.tmps, params := ps, assign := assign, body := body, defers := D })]) (List.perm_append_singleton _ _).symm (fun r h => h)
        exact hdone D i hI _ _ hOKa ⟨hm4.keeps, hm4.mem⟩
      · have hm3 : OKm E (objR (D + 1) (recL fn a.tmps ps assign body D .done (some c)) :: (defR D :: (L.Fx c i).1 ++ μr)) ((L.Fx c i).2 ++ φ) w' := hm2
        refine ⟨some c, _, run_endLoop hm3.objAt (by simp), ?_⟩
        have hm4 := (hm3.putObj (.loop { state := .exhausted, pending := some c, fn := fn, tmps := a.tmps, params := ps, assign := assign, body := body, defers := D })).weak (μ' := defR D :: ((L.Fx c i).1 ++ μr)) (μr := [objR (D + 1) (.loop { state := .exhausted, pending := some c, fn := fn, tmps := a.tmps, params := ps, assign := assign, body := body, defers := D })]) (List.perm_append_singleton _ _).symm (fun r h => h)
        exact (wpIn_wide (n := 0)).2 (hstop D c pre i hpre hI _ _ hOKa ⟨hm4.keeps, hm4.mem⟩)
    · rintro pre x μ' φ' hpre ⟨i, hI, rfl, rfl⟩ w2 S T hS hT hd hlt
      obtain ⟨S1, S2, k1, _⟩ := hS
      have hy := run_yield (P := E.P) (args := (enc x).toArray) k1.1 (by simpa using hN x)
      refine ⟨_, _, _, _, hy, roundIn_of_wpIn trivial ?_⟩
      refine hround (D + 1) D fn a.tmps w2 S T pre x i hpre hI no_begin _ w2 ?_ ⟨Keeps.refl _ _, S, T, ⟨S1, S2, k1, by assumption⟩, ?_, hd, fun k h => .inl h, fun k h => .inl h, hlt⟩
      · have e : ((ps.zip (enc x).toArray).foldl (fun tmps (p : Tmp × Value) => tmps.setIfInBounds p.1 p.2) a.tmps) = (ps.toList.zip (enc x)).foldl (fun t (p : Tmp × Value) => t.setIfInBounds p.1 p.2) a.tmps := by
          rw [← Array.foldl_toList, Array.toList_zip]
        show OKa _ _ { tmps := (ps.zip (enc x).toArray).foldl (fun tmps (p : Tmp × Value) => tmps.setIfInBounds p.1 p.2) a.tmps, defers := [] }
        rw [e]
        refine putS_ok (E := ⟨E.P, w2, S, T, E.N, []⟩) (ps.toList.zip (enc x)) (a := { tmps := a.tmps, defers := [] }) ⟨rfl, ha.siz, ha.slots⟩ ?_
        rw [List.all_eq_true]
        rintro ⟨p, v⟩ hpv
        exact List.all_eq_true.1 hps p (List.of_mem_zip hpv).1
      · intro r hr
        rcases List.mem_append.1 hr with hr | hr
        · exact hT r (List.mem_append_left _ hr)
        · exact hT r (List.mem_append_right _ (List.mem_append_right _ hr))

/-! ### functions that hold such a loop -/
def FinM (P : Program) (fn : Func) (w0 : World) (S0 T0 : Nat → Prop) (post : Value → List Res → List Res → Prop) : Qt
  | .normal, a, w | .ret, a, w => LeavesInM Fence.wide 0 P fn a.tmps (TP w0 S0 T0 post) a.defers .returning w
  | _, _, _ => False
theorem FinM.post {P : Program} {fn : Func} {w0 : World} {S0 T0 : Nat → Prop} {post : Value → List Res → List Res → Prop} : ∀ e a w, FinM P fn w0 S0 T0 post e a w → bodyPostM Fence.wide 0 P fn (TP w0 S0 T0 post) e a w := fun e a w h => by
  cases e <;> first | exact h | exact h.elim
theorem Tri_ofM {P : Program} {f : FuncId} {fn : Func} {c : Code} {args : List Value} {μ φ : List Res} {post : Value → List Res → List Res → Prop} (hf : P.funcs[f]? = some fn) (hb : fn.body = some c) (hE : Enter P f = true)
    {N : Nat} (hN : fn.ntmps = N) (hl : Nat.ble args.length N = true)
    (h : ∀ (w0 : World) (S0 T0 : Nat → Prop), CJ ⟨P, w0, S0, T0, N, []⟩ (FinM P fn w0 S0 T0 post) c (initS 0 args) μ φ) : Tri P f args μ φ post := by
  refine ⟨hE, fun w S T hS hT hd hlt => ?_⟩
  refine (callsIn_wide (n := 0)).1 (callsIn_of_wp_marks hf hb trivial (wpIn_mono ((wpIn_wide (n := 0)).2 ?_) FinM.post))
  have hl' : args.length ≤ fn.ntmps := by rw [hN]; exact Nat.le_of_ble_eq_true hl
  refine h w S T _ w ⟨rfl, ?_, ?_⟩ ⟨Keeps.refl _ _, S, T, hS, hT, hd, fun k hk => .inl hk, fun k hk => .inl hk, hlt⟩
  · simp; omega
  · intro t v hv
    obtain ⟨j, rfl, hj⟩ := initS_lk args 0 t v hv
    have hjl : j < args.length := by
      rcases Nat.lt_or_ge j args.length with h' | h'
      · exact h'
      · rw [List.getElem?_eq_none h'] at hj; cases hj
    simp only [Nat.zero_add]
    rw [Array.getElem?_append_left (by simpa using hjl)]
    simpa using hj
theorem leavesM {fn : Func} {tmps : Array Value} {v : Value} {post : Value → List Res → List Res → Prop} {μ' φ' μr : List Res} (hf : ∀ r, r ∈ φ' → r ∈ φ) (hpost : post v μ' φ')
    (hr : ∀ w, Hold w (μ' ++ μr) → Hold w φ → (results fn tmps).run E.P w = .ok v w) : ∀ (Ds : List Nat) (w : World), OKm E (Ds.map (fun D => defR D) ++ (μ' ++ μr)) φ w →
    LeavesInM Fence.wide 0 E.P fn tmps (TP E.w0 E.S0 E.T0 post) (Ds.map markD) .returning w
  | [], w, hm => ⟨v, hr w hm.hold.1 hm.hold.2, OKm.tp (μ' := μ') (μr := μr) hm (List.Perm.refl _) hf hpost⟩
  | D :: Ds, w, hm => by
    refine ⟨by simp, .inl ⟨D, _, rfl, run_takeDeferred hm.objAt, leavesM hf hpost hr Ds _ ?_⟩⟩
    have := hm.putObj (.deferred none)
    exact this.weak (μr := [objR D (.deferred none)]) (List.perm_append_singleton _ _).symm (fun r h => h)
theorem QJ_finM {fn : Func} {post : Value → List Res → List Res → Prop} {e : Exit} (he : e = .ret ∨ e = .normal) (Ds : List Nat) (hds : E.ds = Ds.map markD) {v : Value} {μ' φ' μr : List Res} (hr : ∀ a w, Slots σ a → Hold w (μ' ++ μr) → Hold w φ → (results fn a.tmps).run E.P w = .ok v w) (hp : List.Perm μ (Ds.map (fun D => defR D) ++ (μ' ++ μr))) (hf : ∀ r, r ∈ φ' → r ∈ φ)
    (hpost : post v μ' φ') : QJ E (FinM E.P fn E.w0 E.S0 E.T0 post) e σ μ φ := fun a w ha hm => by
  have hm' : OKm E (Ds.map (fun D => defR D) ++ (μ' ++ μr)) φ w := hm.weak (μr := []) (by simpa using hp) (fun _ h => h)
  have := leavesM (fn := fn) (tmps := a.tmps) hf hpost (fun w h1 h2 => hr a w ha.slots h1 h2) Ds w hm'
  have hd : a.defers = Ds.map markD := ha.defs.trans hds
  rcases he with rfl | rfl
  · show LeavesInM _ _ _ _ _ _ a.defers _ _
    rw [hd]; exact this
  · show LeavesInM _ _ _ _ _ _ a.defers _ _
    rw [hd]; exact this
end

/-! ### more rules for code in a round -/
section
variable {E : Env} {Q : Qt} {σ : List (Nat × Value)} {μ φ : List Res} {ops : Array Oper} {l n : Nat}
theorem RJ_regDA {id : Nat} (hmix : E.P.follows .mixedOrders = true) (hs : Region.noSelect ops = true) (hQ : ∀ c a w d v, Q (.panic c) (a.put (some d) v) w → Q (.panic c) a w) (ml pl : List Res) (hml : ∀ r, r ∈ ml → r ∈ μ) (hpl : ∀ r, r ∈ pl → r ∈ φ) (hd : ops.toList.all noDefer = true)
    (A : List Al) (m : Nat) (hn : ops.size = m + A.length) (hok : AlOk E.P ops A) (hnd : nodupB (dsts A) = true) (hsz : A.all (fun x => Nat.blt x.d E.N) = true) (h : AA E Q ops ml pl A m (Array.replicate ops.size false) σ μ φ) : RJ l n E Q (.region id ops true) σ μ φ := fun hq a w ha hm => by
  refine wpIn_region_any hmix (anyIn_of hq hd _ _ _ _ (wpAny_of_held (S := fun w => Hold w ml ∧ Hold w pl) _ _ _ _ ?_))
  have hp : ∀ (A : List Al), pend (A.map fun _ => none) = A.length := by
    intro A; induction A with
    | nil => rfl
    | cons x A ih => simp [pend, ih]
  have hb : ∀ (A : List Al) (L : Array Bool), lsB A (bts (A.map fun _ => none)) L = L := by
    intro A; induction A with
    | nil => intro L; rfl
    | cons x A ih => intro L; exact ih L
  have hs0 : ∀ (A : List Al), σA A (A.map fun _ => none) = [] := by
    intro A; induction A with
    | nil => rfl
    | cons x A ih => exact ih
  have hm0 : ∀ (A : List Al), μA A (A.map fun _ => none) = [] := by
    intro A; induction A with
    | nil => rfl
    | cons x A ih => exact ih
  have := h hok hnd hsz hs hQ hml hpl (A.map fun _ => none) (by simp) a w.drew ha (by rw [hs0]; intro t v hv; cases hv) (by rw [hm0]; exact hm.drew)
  rw [hp, hb, ← hn] at this
  exact this
def RN (l n m : Nat) (E : Env) (Q : Qt) (c : Code) (σ : List (Nat × Value)) (μ φ : List Res) : Prop := ¬ LetsOut Q → ∀ a w, OKa E σ a → OKm E μ φ w → Code.roundsIn (fen l) n E.P c Q m a w
theorem RJ_loopN {c : Code} (m : Nat) (h : RN l n m E Q c σ μ φ) : RJ l n E Q (.loop c) σ μ φ := fun hq a w ha hm => wpIn_loop_rounds m (h hq a w ha hm)
theorem RN_succ {c : Code} {m : Nat} (h : RJ l n E (Exit.then (Code.roundsIn (fen l) n E.P c Q m) Q) c σ μ φ) : RN l n (m + 1) E Q c σ μ φ := fun hq a w ha hm => h (no_then hq) a w ha hm
theorem QJ_thenRN {c : Code} {m : Nat} (hq : ¬ LetsOut Q) (h : RN l n m E Q c σ μ φ) : QJ E (Exit.then (Code.roundsIn (fen l) n E.P c Q m) Q) .normal σ μ φ := fun a w ha hm => h hq a w ha hm
theorem RJ_weak {c : Code} {σ' : List (Nat × Value)} {μ' φ' μr : List Res} (hs : AllLk σ σ') (hp : List.Perm μ (μ' ++ μr)) (hf : ∀ r, r ∈ φ' → r ∈ φ) (h : RJ l n E Q c σ' μ' φ') : RJ l n E Q c σ μ φ :=
  fun hq a w ha hm => h hq a w ⟨ha.defs, ha.siz, ha.slots.weak hs⟩ (hm.weak hp hf)
theorem RJ_freeze {r : Res} {c : Code} (h : RJ l n E Q c σ μ (r :: φ)) : RJ l n E Q c σ (r :: μ) φ := fun hq a w ha hm => h hq a w ha hm.freeze
theorem RJ_regY {id : Nat} {os : List Oper} (hd : os.all noDefer = true) (h : LJ E Q os.toArray os σ μ φ) : RJ l n E Q (.region id os.toArray false) σ μ φ := RJ_reg hd h

/-! ### orders -/
def pickR {α : Type} : List Nat → List α → List α
  | [], l => l
  | i :: is, l => match l[i]? with
    | some x => x :: pickR is (l.eraseIdx i)
    | none => l
theorem perm_erase {α : Type} : ∀ (l : List α) (i : Nat) (x : α), l[i]? = some x → l.Perm (x :: l.eraseIdx i)
  | [], _, _, h => by simp at h
  | y :: l, 0, x, h => by
    simp at h
    subst h
    exact List.Perm.refl _
  | y :: l, i + 1, x, h => by
    have := perm_erase l i x (by simpa using h)
    exact (this.cons y).trans (List.Perm.swap x y _)
theorem permR {α : Type} : ∀ (is : List Nat) (l : List α), l.Perm (pickR is l)
  | [], l => List.Perm.refl _
  | i :: is, l => by
    unfold pickR
    cases h : l[i]? with
    | none => exact List.Perm.refl _
    | some x =>
      exact (perm_erase l i x h).trans ((permR is _).cons _)
theorem permI {α : Type} {l l' : List α} (is : List Nat) (h : pickR is l = l') : l.Perm l' := h ▸ permR is l

/-! ### resources with hidden parts -/
def exR {ι : Type} (f : ι → List Res) : Res where
  p w S := ∃ i, Sep w (f i) S
  loc := fun {w w' S} ⟨i, h⟩ hk => ⟨i, h.keep hk⟩
  lt := fun {w S k} ⟨i, h⟩ hk => h.lt hk
theorem OKm.openEx {ι : Type} {f : ι → List Res} {w : World} (h : OKm E (exR f :: μ) φ w) : ∃ i, OKm E (f i ++ μ) φ w := by
  obtain ⟨S, T, ⟨S1, S2, ⟨i, h1⟩, h2, h3, h4⟩, r⟩ := h.mem
  have e : S = fun k => S1 k ∨ S2 k := funext fun k => propext (h4 k)
  refine ⟨i, h.keeps, S, T, ?_, r⟩
  rw [e]
  exact h1.app h2 h3
theorem OKm.closeEx {ι : Type} {f : ι → List Res} {i : ι} {w : World} (h : OKm E (f i ++ μ) φ w) : OKm E (exR f :: μ) φ w := by
  obtain ⟨S, T, h1, r⟩ := h.mem
  obtain ⟨S1, S2, g1, g2, gd, gs⟩ := h1.split
  exact ⟨h.keeps, S, T, ⟨S1, S2, ⟨i, g1⟩, g2, gd, gs⟩, r⟩
variable {Q : Qt} {rest : List Oper} {c : Code} {e : Exit} {ι : Type} {f : ι → List Res}
theorem CJ_open (h : ∀ i, CJ E Q c σ (f i ++ μ) φ) : CJ E Q c σ (exR f :: μ) φ := fun a w ha hm => let ⟨i, h'⟩ := hm.openEx; h i a w ha h'
theorem RJ_open (h : ∀ i, RJ l n E Q c σ (f i ++ μ) φ) : RJ l n E Q c σ (exR f :: μ) φ := fun hq a w ha hm => let ⟨i, h'⟩ := hm.openEx; h i hq a w ha h'
theorem LJ_open (h : ∀ i, LJ E Q ops rest σ (f i ++ μ) φ) : LJ E Q ops rest σ (exR f :: μ) φ := fun a w ha hm => let ⟨i, h'⟩ := hm.openEx; h i a w ha h'
theorem QJ_close (i : ι) {μr : List Res} (hp : List.Perm μ (f i ++ μr)) (h : QJ E Q e σ (exR f :: μr) φ) : QJ E Q e σ μ φ := fun a w ha hm =>
  h a w ha (OKm.closeEx (i := i) (hm.weak (μr := []) (by simpa using hp) (fun _ h => h)))
theorem LJ_close (i : ι) {μr : List Res} (hp : List.Perm μ (f i ++ μr)) (h : LJ E Q ops rest σ (exR f :: μr) φ) : LJ E Q ops rest σ μ φ := fun a w ha hm =>
  h a w ha (OKm.closeEx (i := i) (hm.weak (μr := []) (by simpa using hp) (fun _ h => h)))
theorem CJ_close (i : ι) {μr : List Res} (hp : List.Perm μ (f i ++ μr)) (h : CJ E Q c σ (exR f :: μr) φ) : CJ E Q c σ μ φ := fun a w ha hm =>
  h a w ha (OKm.closeEx (i := i) (hm.weak (μr := []) (by simpa using hp) (fun _ h => h)))
end
end Go.Proofs.Ytbanlhlggkdanaa
