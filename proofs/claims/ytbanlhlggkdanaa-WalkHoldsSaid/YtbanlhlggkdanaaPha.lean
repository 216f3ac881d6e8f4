/- Regions that draw their order, in which a variable is both read and written: each resource is held till the first operation that may break it; a load is taken first if all that may break what it reads wait for it. -/
import Derived.Test.YtbanlhlggkdanaaSli
set_option linter.unusedSimpArgs false
set_option linter.unusedVariables false
namespace Go.Proofs.Ytbanlhlggkdanaa
open Go.RowKit

/-! ### who waits for whom -/
def edgeM (ops : Array Oper) (j : Nat) : Nat := match ops[j]? with
  | some o => o.after.toList.foldl (fun m e => if Region.binds .any e then m ||| 2 ^ e.on else m) 0
  | none => 0
/-- the operations for which d waits -/
def ancM (ops : Array Oper) (d : Nat) : Nat := (List.range d).reverse.foldl (fun m j => if m.testBit j then m ||| edgeM ops j else m) (edgeM ops d)
def waitB (ops : Array Oper) (listed : Array Bool) (ds : List Nat) (i : Nat) : Bool := ds.all fun d => listed.getD d true || (ancM ops d).testBit i
def closedB (ops : Array Oper) (listed : Array Bool) : Bool := (List.range ops.size).all fun j => !listed.getD j false || match ops[j]? with
  | some o => o.after.toList.all fun e => !Region.binds .any e || listed.getD e.on false
  | none => true
def ListedIn (ops : Array Oper) (listed : Array Bool) : Prop := ∀ j o, ops[j]? = some o → listed.getD j false = true → ∀ e ∈ o.after, Region.binds .any e = true → listed.getD e.on false = true
theorem closedB_spec {ops : Array Oper} {listed : Array Bool} (h : closedB ops listed = true) : ListedIn ops listed := fun j o hj hl e he hb => by
  have hlt : j < ops.size := (Array.getElem?_eq_some_iff.1 hj).1
  have h1 := List.all_eq_true.1 h j (List.mem_range.2 hlt)
  simp only [hl, hj, Bool.not_true, Bool.false_or] at h1
  have h2 := List.all_eq_true.1 h1 e (Array.mem_toList_iff.2 he)
  simpa [hb] using h2
theorem ListedIn.step {ops : Array Oper} {listed : Array Bool} {i : Nat} (h : ListedIn ops listed) (hi : i ∈ Region.ready .any ops listed) : ListedIn ops (listed.setIfInBounds i true) := fun j o hj hl e he hb => by
  obtain ⟨_, oi, hoi, hall⟩ := mem_ready.1 hi
  by_cases hij : i = j
  · subst hij
    obtain rfl : o = oi := Option.some.inj (hj.symm.trans hoi)
    exact getD_set_true (hall e he hb)
  · rw [getD_set_ne false hij] at hl
    exact getD_set_true (h j o hj hl e he hb)
/-- all bits of a mask are listed -/
def Bits (listed : Array Bool) (m : Nat) : Prop := ∀ i, m.testBit i = true → listed.getD i false = true
theorem Bits.or {listed : Array Bool} {a b : Nat} (ha : Bits listed a) (hb : Bits listed b) : Bits listed (a ||| b) := fun i h => by
  rw [Nat.testBit_or, Bool.or_eq_true] at h
  exact h.elim (ha i) (hb i)
theorem bits_edges {listed : Array Bool} : ∀ (es : List Edge) (m : Nat), (∀ e ∈ es, Region.binds .any e = true → listed.getD e.on false = true) → Bits listed m → Bits listed (es.foldl (fun m e => if Region.binds .any e then m ||| 2 ^ e.on else m) m)
  | [], _, _, h => h
  | e :: es, m, he, h => by
    refine bits_edges es _ (fun x hx => he x (.tail _ hx)) ?_
    dsimp only
    by_cases hb : Region.binds .any e = true
    · rw [if_pos hb]
      refine h.or fun i hi => ?_
      rw [Nat.testBit_two_pow, decide_eq_true_eq] at hi
      subst hi
      exact he e (.head _) hb
    · rw [if_neg hb]; exact h
theorem bits_edgeM {ops : Array Oper} {listed : Array Bool} {j : Nat} (h : ∀ o, ops[j]? = some o → ∀ e ∈ o.after, Region.binds .any e = true → listed.getD e.on false = true) : Bits listed (edgeM ops j) := by
  unfold edgeM
  cases hj : ops[j]? with
  | none => intro i hi; simp at hi
  | some o => exact bits_edges _ _ (fun e he hb => h o hj e (Array.mem_toList_iff.1 he) hb) (fun i hi => by simp at hi)
theorem bits_fold {ops : Array Oper} {listed : Array Bool} (hc : ListedIn ops listed) : ∀ (js : List Nat) (m : Nat), Bits listed m → Bits listed (js.foldl (fun m j => if m.testBit j then m ||| edgeM ops j else m) m)
  | [], _, h => h
  | j :: js, m, h => by
    refine bits_fold hc js _ ?_
    dsimp only
    by_cases hb : m.testBit j = true
    · rw [if_pos hb]
      exact h.or (bits_edgeM fun o ho e he hbd => hc j o ho (h j hb) e he hbd)
    · rw [if_neg hb]; exact h
theorem ready_anc {ops : Array Oper} {listed : Array Bool} {d i : Nat} (hc : ListedIn ops listed) (hd : d ∈ Region.ready .any ops listed) (h : (ancM ops d).testBit i = true) : listed.getD i false = true := by
  obtain ⟨_, o, ho, hall⟩ := mem_ready.1 hd
  refine bits_fold hc _ _ (bits_edgeM fun o' ho' e he hb => ?_) i h
  obtain rfl : o' = o := Option.some.inj (ho'.symm.trans ho)
  exact hall e he hb

/-! ### the judgement -/
abbrev Inv := (World → Prop) × List Nat
/-- Whatever order is picked; behind each operation each of M still holds, unless it may be broken by it. -/
def wpAnyM (P : Program) (ops : Array Oper) (Q : Exit → Act → World → Prop) (M : List Inv) : Nat → Array Bool → Act → World → Prop
  | 0, listed, a, w => Region.ready .any ops listed = [] ∧ Q .normal a w
  | fuel + 1, listed, a, w => (Region.ready .any ops listed = [] → Q .normal a w) ∧
    ∀ i ∈ Region.ready .any ops listed, wpOp P ops Q i (fun a' w' => (∀ p ∈ M, i ∉ p.2 → p.1 w → p.1 w') ∧ wpAnyM P ops Q M fuel (listed.setIfInBounds i true) a' w') a w
theorem wpAny_of_M {P : Program} {ops : Array Oper} {Q : Exit → Act → World → Prop} {M : List Inv} : ∀ (fuel : Nat) (listed : Array Bool) (a : Act) (w : World), wpAnyM P ops Q M fuel listed a w → wpAny P .any ops Q fuel listed a w
  | 0, _, _, _, h => h
  | fuel + 1, _, _, _, h => ⟨h.1, fun i hi => wpOp_mono (fun a' w' h' => wpAny_of_M fuel _ a' w' h'.2) (h.2 i hi)⟩
theorem wpAnyM_first {P : Program} {ops : Array Oper} {Q : Exit → Act → World → Prop} {M : List Inv} {i : Nat} {oi : Oper} {v : Value} (L : List Inv) (hL : ∀ p ∈ L, p ∈ M) (hi : ops[i]? = some oi) (hsel : ∀ (j : Nat) (o : Oper) cs b, ops[j]? = some o → o.op ≠ .select cs b)
    (hQ : ∀ c a w, Q (.panic c) (a.put oi.dst v) w → Q (.panic c) a w) : ∀ (fuel : Nat) (listed : Array Bool) (a : Act) (w : World),
      (∀ j oj, ops[j]? = some oj → j ≠ i → listed.getD j true = false → (∀ e ∈ oj.after, Region.binds .any e = true → e.on ≠ i) → oi.apart ops oj = true) →
      ListedIn ops listed → (∀ p ∈ L, ∀ d ∈ p.2, listed.getD d true = false → (ancM ops d).testBit i = true) →
      i ∈ Region.ready .any ops listed → YieldsIf P ops (fun w => ∀ p ∈ L, p.1 w) oi v a → (∀ p ∈ L, p.1 w) →
      wpAnyM P ops Q M fuel (listed.setIfInBounds i true) (a.put oi.dst v) w → wpAnyM P ops Q M (fuel + 1) listed a w := by
  intro fuel
  induction fuel with
  | zero =>
    intro listed a w _ _ _ hr hy hS H
    refine ⟨fun h => (by rw [h] at hr; cases hr), fun j hj => ?_⟩
    by_cases hji : j = i
    · subst hji; exact hy.wpOp hi hS ⟨fun _ _ _ h => h, H⟩
    · have := ready_mono hj hji
      rw [H.1] at this
      cases this
  | succ fuel ih =>
    intro listed a w hfree hc hd hr hy hS H
    refine ⟨fun h => (by rw [h] at hr; cases hr), fun j hj => ?_⟩
    by_cases hji : j = i
    · subst hji; exact hy.wpOp hi hS ⟨fun _ _ _ h => h, H⟩
    · have h1 := H.2 j (ready_mono hj hji)
      obtain ⟨hjun, oj, hoj, hall⟩ := mem_ready.1 hj
      have hiun := (mem_ready.1 hr).1
      have hno : ¬ listed.getD i false = true := fun h1 => by
        rcases Nat.lt_or_ge i listed.size with h' | h'
        · simp [h'] at hiun h1; rw [hiun] at h1; cases h1
        · simp [Array.getElem?_eq_none h'] at h1
      have hnot : ∀ e ∈ oj.after, Region.binds .any e = true → e.on ≠ i := fun e he hb heq => by
        have h1 := hall e he hb
        rw [heq] at h1
        exact hno h1
      have hjd : ∀ p ∈ L, j ∉ p.2 := fun p hp hm => hno (ready_anc hc hj (hd p hp j hm hjun))
      have h2 := wpOp_putIf hoj (hfree j oj hoj hji hjun hnot) (fun cs b => hsel i oi cs b hi) (fun cs b => hsel j oj cs b hoj) hQ hy h1
      have hun' : ∀ k, (listed.setIfInBounds j true).getD k true = false → listed.getD k true = false := fun k hun => by
        by_cases hjk : j = k
        · subst hjk; exact hjun
        · rw [getD_set_ne true hjk] at hun; exact hun
      refine wpOp_mono (fun a' w' h3 => ⟨h3.2.1, ih (listed.setIfInBounds j true) a' w' (fun k ok hk hki hun hno => hfree k ok hk hki (hun' k hun) hno) (hc.step hj) (fun p hp d hm hun => hd p hp d hm (hun' d hun)) (ready_mono hr (Ne.symm hji)) h3.1 (fun p hp => h3.2.1 p (hL p hp) (hjd p hp) (hS p hp)) ?_⟩) h2
      rw [Array.setIfInBounds_comm _ _ hji]
      exact h3.2.2

section
variable {E : Env} {Q : Qt} {ops : Array Oper} {pl : List Res} {M : List (Res × List Nat)} {fuel : Nat} {listed : Array Bool} {σ : List (Nat × Value)} {μ φ : List Res}
/-- the invariants: the facts, which nothing breaks; each block, with what may break it -/
def invs (M : List (Res × List Nat)) (pl : List Res) : List Inv := ((fun w => Hold w pl), []) :: M.map fun p => ((fun w => Hold w [p.1]), p.2)
def BJ (E : Env) (Q : Qt) (ops : Array Oper) (M : List (Res × List Nat)) (pl : List Res) (fuel : Nat) (listed : Array Bool) (σ : List (Nat × Value)) (μ φ : List Res) : Prop :=
  Region.noSelect ops = true → (∀ c a w d v, Q (.panic c) (a.put (some d) v) w → Q (.panic c) a w) → (∀ r, r ∈ pl → r ∈ φ) → ∀ a w, OKa E σ a → OKm E μ φ w → wpAnyM E.P ops Q (invs M pl) fuel listed a w
theorem CJ_regB {id : Nat} (hmix : E.P.follows .mixedOrders = true) (hs : Region.noSelect ops = true) (hQ : ∀ c a w d v, Q (.panic c) (a.put (some d) v) w → Q (.panic c) a w) (M : List (Res × List Nat)) (pl : List Res) (hpl : ∀ r, r ∈ pl → r ∈ φ)
    (h : BJ E Q ops M pl ops.size (Array.replicate ops.size false) σ μ φ) : CJ E Q (.region id ops true) σ μ φ := fun a w ha hm =>
  wp_region_any hmix (wpAny_of_M _ _ _ _ (h hs hQ hpl a w.drew ha hm.drew))
theorem hold_one {w : World} {r : Res} (h : Hold w [r]) {us : List Res} (hu : us = [r]) : Hold w us := by subst hu; exact h
/-- a pure operation that reads nothing but facts -/
theorem BJ_y (i : Nat) {d : Tmp} {op : Op} {ty : TypeId} {pos : String} {af : Array Edge} {g : Option (Nat × Bool)} {v : Value} (hi : ops[i]? = some ⟨some d, op, ty, pos, af, g⟩)
    (hf : Region.free .any ops listed i = true) (hr : (Region.ready .any ops listed).contains i = true) (hc : closedB ops listed = true)
    (hg : grd ops σ g = some true) (hd : Nat.blt d E.N = true) (hy : YJ E op ty σ [] pl v)
    (h : BJ E Q ops M pl fuel (listed.setIfInBounds i true) ((d, v) :: σ) μ φ) : BJ E Q ops M pl (fuel + 1) listed σ μ φ := fun hs hQ hp a w ha hmem =>
  wpAnyM_first [((fun w => Hold w pl), [])] (fun p hp => by rcases List.mem_singleton.1 hp with rfl; exact .head _) hi (Region.noSelect_spec hs) (fun c a w => hQ c a w _ _) fuel listed a w (Region.free_spec hi hf) (closedB_spec hc)
    (fun p hp d hd => by rcases List.mem_singleton.1 hp with rfl; cases hd) (by simpa using hr) (.inl ⟨grd_wanted (o := ⟨some d, op, ty, pos, af, g⟩) ha hg, fun w' hw' => hy a w' _ _ _ _ ha.slots (fun r hr => nomatch hr) (hw' _ (.head _))⟩)
    (fun p hp' => by rcases List.mem_singleton.1 hp' with rfl; exact hmem.hold.2.sub hp) (h hs hQ hp _ _ (ha.put hd v) hmem)
/-- a load of a block that may be broken later -/
theorem BJ_l (i k : Nat) {d : Tmp} {op : Op} {ty : TypeId} {pos : String} {af : Array Edge} {g : Option (Nat × Bool)} {v : Value} {u : Res} {ds : List Nat} (hi : ops[i]? = some ⟨some d, op, ty, pos, af, g⟩)
    (hf : Region.free .any ops listed i = true) (hr : (Region.ready .any ops listed).contains i = true) (hc : closedB ops listed = true)
    (hk : M[k]? = some (u, ds)) (hw : waitB ops listed ds i = true) (hu : u ∈ μ)
    (hg : grd ops σ g = some true) (hd : Nat.blt d E.N = true) (hy : YJ E op ty σ [u] pl v)
    (h : BJ E Q ops M pl fuel (listed.setIfInBounds i true) ((d, v) :: σ) μ φ) : BJ E Q ops M pl (fuel + 1) listed σ μ φ := fun hs hQ hp a w ha hmem =>
  wpAnyM_first [((fun w => Hold w pl), []), ((fun w => Hold w [u]), ds)] (fun p hp => by
      rcases List.mem_cons.1 hp with rfl | hp
      · exact .head _
      · rcases List.mem_singleton.1 hp with rfl
        exact .tail _ (List.mem_map.2 ⟨(u, ds), List.mem_of_getElem? hk, rfl⟩)) hi (Region.noSelect_spec hs) (fun c a w => hQ c a w _ _) fuel listed a w (Region.free_spec hi hf) (closedB_spec hc)
    (fun p hp d hd hun => by
      rcases List.mem_cons.1 hp with rfl | hp
      · cases hd
      · rcases List.mem_singleton.1 hp with rfl
        have := List.all_eq_true.1 hw d hd
        rw [hun] at this
        simpa using this) (by simpa using hr) (.inl ⟨grd_wanted (o := ⟨some d, op, ty, pos, af, g⟩) ha hg, fun w' hw' => hy a w' _ _ _ _ ha.slots (hw' _ (.tail _ (.head _))) (hw' _ (.head _))⟩)
    (fun p hp' => by
      rcases List.mem_cons.1 hp' with rfl | hp'
      · exact hmem.hold.2.sub hp
      · rcases List.mem_singleton.1 hp' with rfl
        exact hmem.hold.1.sub (fun r hr => by rcases List.mem_singleton.1 hr with rfl; exact hu)) (h hs hQ hp _ _ (ha.put hd v) hmem)
theorem BJ_skip (i : Nat) {d : Tmp} {op : Op} {ty : TypeId} {pos : String} {af : Array Edge} {g : Option (Nat × Bool)} (hi : ops[i]? = some ⟨some d, op, ty, pos, af, g⟩)
    (hf : Region.free .any ops listed i = true) (hr : (Region.ready .any ops listed).contains i = true) (hc : closedB ops listed = true)
    (hg : grd ops σ g = some false) (hd : Nat.blt d E.N = true)
    (h : BJ E Q ops M pl fuel (listed.setIfInBounds i true) ((d, undef) :: σ) μ φ) : BJ E Q ops M pl (fuel + 1) listed σ μ φ := fun hs hQ hp a w ha hmem =>
  wpAnyM_first [] (fun p hp => nomatch hp) hi (Region.noSelect_spec hs) (fun c a w => hQ c a w _ _) fuel listed a w (Region.free_spec hi hf) (closedB_spec hc) (fun p hp => nomatch hp) (by simpa using hr)
    (.inr ⟨grd_wanted (o := ⟨some d, op, ty, pos, af, g⟩) ha hg, rfl⟩) (fun p hp => nomatch hp) (h hs hQ hp _ _ (ha.put hd undef) hmem)
def AllM (i : Nat) (μ : List Res) : List (Res × List Nat) → Prop
  | [] => True
  | p :: M => (p.2.contains i = true ∨ p.1 ∈ μ) ∧ AllM i μ M
theorem AllM.spec {i : Nat} {μ : List Res} : ∀ {M : List (Res × List Nat)}, AllM i μ M → ∀ p ∈ M, i ∉ p.2 → p.1 ∈ μ
  | _ :: _, h, _, .head _, hn => h.1.elim (fun hc => absurd (by simpa using hc) hn) id
  | _ :: _, h, _, .tail _ hm, hn => AllM.spec h.2 _ hm hn
theorem AllM.invs {E : Env} {i : Nat} {M : List (Res × List Nat)} {pl μ φ : List Res} {w w' : World} (h : AllM i μ M) (hm : OKm E μ φ w') (hp : ∀ r, r ∈ pl → r ∈ φ) : ∀ p ∈ Go.Proofs.Ytbanlhlggkdanaa.invs M pl, i ∉ p.2 → p.1 w → p.1 w' := fun p hp' hn _ => by
  rcases List.mem_cons.1 hp' with rfl | hp'
  · exact hm.hold.2.sub hp
  · obtain ⟨q, hq, rfl⟩ := List.mem_map.1 hp'
    exact hm.hold.1.sub (fun r hr => by rcases List.mem_singleton.1 hr with rfl; exact h.spec q hq hn)
/-- the only operation that can come now -/
theorem BJ_o (i : Nat) {d : Tmp} {op : Op} {ty : TypeId} {pos : String} {af : Array Edge} {g : Option (Nat × Bool)} {X : Value → List Res → List Res → Prop} (hi : ops[i]? = some ⟨some d, op, ty, pos, af, g⟩)
    (hr : Region.ready .any ops listed = [i]) (hg : grd ops σ g = some true) (hd : Nat.blt d E.N = true) (ho : OJ E op ty σ μ φ X)
    (h : ∀ v μ' φ', X v μ' φ' → AllM i μ' M ∧ (∀ r, r ∈ pl → r ∈ φ → r ∈ φ') ∧ BJ E Q ops M pl fuel (listed.setIfInBounds i true) ((d, v) :: σ) μ' φ') : BJ E Q ops M pl (fuel + 1) listed σ μ φ := fun hs hQ hp a w ha hmem => by
  refine ⟨fun h0 => (by rw [hr] at h0; cases h0), ?_⟩
  · intro j hj
    have hji : j = i := by rw [hr] at hj; simpa using hj
    subst hji
    unfold wpOp
    rw [hi]
    dsimp only
    rw [if_pos (grd_wanted (o := ⟨some d, op, ty, pos, af, g⟩) ha hg)]
    refine .inl (ho a w _ _ _ _ _ _ ha.slots hmem fun v μ' φ' w' hx hm' => ?_)
    obtain ⟨k1, k2, k3⟩ := h v μ' φ' hx
    have e2 : ∀ r, r ∈ pl → r ∈ φ' := fun r hr => k2 r hr (hp r hr)
    exact ⟨k1.invs hm' e2, k3 hs hQ e2 _ _ (ha.put hd v) hm'⟩
theorem BJ_o0 (i : Nat) {op : Op} {ty : TypeId} {pos : String} {af : Array Edge} {g : Option (Nat × Bool)} {X : Value → List Res → List Res → Prop} (hi : ops[i]? = some ⟨none, op, ty, pos, af, g⟩)
    (hr : Region.ready .any ops listed = [i]) (hg : grd ops σ g = some true) (ho : OJ E op ty σ μ φ X)
    (h : ∀ v μ' φ', X v μ' φ' → AllM i μ' M ∧ (∀ r, r ∈ pl → r ∈ φ → r ∈ φ') ∧ BJ E Q ops M pl fuel (listed.setIfInBounds i true) σ μ' φ') : BJ E Q ops M pl (fuel + 1) listed σ μ φ := fun hs hQ hp a w ha hmem => by
  refine ⟨fun h0 => (by rw [hr] at h0; cases h0), ?_⟩
  · intro j hj
    have hji : j = i := by rw [hr] at hj; simpa using hj
    subst hji
    unfold wpOp
    rw [hi]
    dsimp only
    rw [if_pos (grd_wanted (o := ⟨none, op, ty, pos, af, g⟩) ha hg)]
    refine .inl (ho a w _ _ _ _ _ _ ha.slots hmem fun v μ' φ' w' hx hm' => ?_)
    obtain ⟨k1, k2, k3⟩ := h v μ' φ' hx
    have e2 : ∀ r, r ∈ pl → r ∈ φ' := fun r hr => k2 r hr (hp r hr)
    exact ⟨k1.invs hm' e2, k3 hs hQ e2 _ _ ha hm'⟩
theorem BJ_done (hr : Region.ready .any ops listed = []) (h : QJ E Q .normal σ μ φ) : BJ E Q ops M pl fuel listed σ μ φ := fun _ _ _ a w ha hm => by
  cases fuel with
  | zero => exact ⟨hr, h a w ha hm⟩
  | succ n => exact ⟨fun _ => h a w ha hm, by rw [hr]; simp⟩
theorem BJ_bool {d : Nat} {b c : Bool} (hb : b = c) (h : BJ E Q ops M pl fuel listed ((d, .bool c) :: σ) μ φ) : BJ E Q ops M pl fuel listed ((d, .bool b) :: σ) μ φ := by subst hb; exact h
theorem BJ_boolC {d : Nat} {b : Bool} (ht : b = true → BJ E Q ops M pl fuel listed ((d, .bool true) :: σ) μ φ) (hf : b = false → BJ E Q ops M pl fuel listed ((d, .bool false) :: σ) μ φ) : BJ E Q ops M pl fuel listed ((d, .bool b) :: σ) μ φ := by
  cases b
  · exact hf rfl
  · exact ht rfl
theorem BJ_val {d : Nat} {u v : Value} (hv : u = v) (h : BJ E Q ops M pl fuel listed ((d, v) :: σ) μ φ) : BJ E Q ops M pl fuel listed ((d, u) :: σ) μ φ := by subst hv; exact h
variable {d : Tmp} {ty : TypeId} {pos : String} {af : Array Edge} {g : Option (Nat × Bool)}
theorem BJ_store {t t' : TypeId} {x y : Operand} {b off n : Nat} {v : Value} {ag : Bool} {cs cs' : Array Value} {μ' : List Res} (i k : Nat) (hi : ops[i]? = some ⟨none, .store t x y, ty, pos, af, g⟩)
    (hr : Region.ready .any ops listed = [i]) (hg : grd ops σ g = some true) (hk : μ[k]? = some (cellsR b cs t')) (hx : oev σ x = some (.pointer (some ⟨b, off, none⟩))) (hy : oev σ y = some v)
    (ht : tyi E.P t = some (ag, n)) (hn : v.cells.size = n) (hb : off + n ≤ cs.size) (h1 : v.cells.toList.all (·.oneCell') = true) (hw : wr cs off v.cells.toList = cs') (hμ' : μ.set k (cellsR b cs' t') = μ')
    (hM : AllM i μ' M) (h : BJ E Q ops M pl fuel (listed.setIfInBounds i true) σ μ' φ) : BJ E Q ops M pl (fuel + 1) listed σ μ φ :=
  BJ_o0 i hi hr hg (OJ_storeK k hk hx hy ht hn hb h1 hw hμ') (by rintro _ _ _ ⟨rfl, rfl⟩; exact ⟨hM, fun _ _ h => h, h⟩)
theorem BJ_call0 {x : Operand} {xs : Array Operand} {at_ : Array TypeId} {f : FuncId} {cap : Array Value} {vs vs' : List Value} {φ1 : List Res} {v0 : Value} (i : Nat) (hi : ops[i]? = some ⟨some d, .call { callee := .value x, args := xs, argTypes := at_ }, ty, pos, af, g⟩)
    (hr : Region.ready .any ops listed = [i]) (hg : grd ops σ g = some true) (hd : Nat.blt d E.N = true)
    (hx : oev σ x = some (.func (.func f) #[] cap)) (hxs : oevs σ xs.toList = some vs) (hv : vs ++ cap.toList = vs') (hM : AllM i μ M) (ht : Tri E.P f vs' [] φ1 (Ret0 v0)) (hφ : ∀ r, r ∈ φ1 → r ∈ φ)
    (h : BJ E Q ops M pl fuel (listed.setIfInBounds i true) ((d, v0) :: σ) μ φ) : BJ E Q ops M pl (fuel + 1) listed σ μ φ := by
  subst hv
  exact BJ_o i hi hr hg hd (OJ_call (μr := μ) hx hxs ht (List.Perm.refl _) hφ) (by rintro _ _ _ ⟨_, _, ⟨rfl, rfl, rfl⟩, rfl, rfl⟩; exact ⟨hM, fun _ _ h => h, h⟩)
theorem BJ_callX {ι : Type} {C : ι → Prop} {fv : ι → Value} {gf : ι → List Res} {x : Operand} {xs : Array Operand} {at_ : Array TypeId} {f : FuncId} {cap : Array Value} {vs vs' : List Value} {φ1 : List Res} (i : Nat) (hi : ops[i]? = some ⟨some d, .call { callee := .value x, args := xs, argTypes := at_ }, ty, pos, af, g⟩)
    (hr : Region.ready .any ops listed = [i]) (hg : grd ops σ g = some true) (hd : Nat.blt d E.N = true)
    (hx : oev σ x = some (.func (.func f) #[] cap)) (hxs : oevs σ xs.toList = some vs) (hv : vs ++ cap.toList = vs') (hM : AllM i μ M) (ht : Tri E.P f vs' [] φ1 (RetX C fv (fun _ => []) gf)) (hφ : ∀ r, r ∈ φ1 → r ∈ φ)
    (h : ∀ x, C x → BJ E Q ops M pl fuel (listed.setIfInBounds i true) ((d, fv x) :: σ) μ (gf x ++ φ)) : BJ E Q ops M pl (fuel + 1) listed σ μ φ := by
  subst hv
  exact BJ_o i hi hr hg hd (OJ_call (μr := μ) hx hxs ht (List.Perm.refl _) hφ) (by rintro _ _ _ ⟨_, _, ⟨x, hc, rfl, rfl, rfl⟩, rfl, rfl⟩; exact ⟨hM, fun _ _ h => List.mem_append_right _ h, h x hc⟩)
def mkM : List (List Nat) → List Res → List (Res × List Nat)
  | ds :: dss, r :: μ => (r, ds) :: mkM dss μ
  | _, _ => []
theorem CJ_regM {id : Nat} (hmix : E.P.follows .mixedOrders = true) (hs : Region.noSelect ops = true) (hQ : ∀ c a w d v, Q (.panic c) (a.put (some d) v) w → Q (.panic c) a w) (dss : List (List Nat))
    (h : BJ E Q ops (mkM dss μ) φ ops.size (Array.replicate ops.size false) σ μ φ) : CJ E Q (.region id ops true) σ μ φ := CJ_regB hmix hs hQ _ _ (fun _ h => h) h
end
end Go.Proofs.Ytbanlhlggkdanaa
