/- The walks of num.Sum and of pred.Circle. -/
import Derived.Test.YtbanlhlggkdanaaP1
set_option linter.unusedSimpArgs false
set_option linter.unusedVariables false
namespace Go.Proofs.Ytbanlhlggkdanaa
open Go.RowKit

theorem ent_88 : Enter Try.prog 88 = true := by kernel_rfl
theorem ulen_55 : ((#[55] : Array TypeId)[0]?).bind Try.prog.underlying = some (.slice (Try.prog.elem ((#[55] : Array TypeId).getD 0 0))) := by kernel_rfl
theorem elt_55 : elt Try.prog 55 = some (3, 1, 8) := by kernel_rfl
theorem ent_89 : Enter Try.prog 89 = true := by kernel_rfl
theorem ent_90 : Enter Try.prog 90 = true := by kernel_rfl
theorem ent_92 : Enter Try.prog 92 = true := by kernel_rfl
theorem ent_93 : Enter Try.prog 93 = true := by kernel_rfl
theorem ulen_169 : ((#[169] : Array TypeId)[0]?).bind Try.prog.underlying = some (.slice (Try.prog.elem ((#[169] : Array TypeId).getD 0 0))) := by kernel_rfl
theorem elt_169 : elt Try.prog 169 = some (100, 2, 32) := by kernel_rfl


theorem Iv_get' {l : List Int} {j k : Nat} (h : j = k) (hk : k < l.length) : (Iv l)[j]? = some (.int .i64 (l.getD k 0)) := by
  have := Iv_get h hk
  rwa [lget_eq] at this
def S30 (x : Int) : Prop := -1073741824 ≤ x ∧ x ≤ 1073741824
instance (x : Int) : Decidable (S30 x) := inferInstanceAs (Decidable (_ ∧ _))
theorem s30_F {l : List Int} {i : Nat} (h : i < l.length) (hn : ¬ S30 (l.getD i 0)) : false = l.all fun x => decide (S30 x) := by
  symm
  rw [List.all_eq_false]
  refine ⟨l.getD i 0, ?_, by simpa using hn⟩
  rw [List.getD, List.getElem?_eq_getElem h]
  exact List.getElem_mem h
theorem s30_T {l : List Int} (h : ∀ j, j < l.length → S30 (l.getD j 0)) : true = l.all fun x => decide (S30 x) := by
  symm
  rw [List.all_eq_true]
  intro x hx
  obtain ⟨j, hj, rfl⟩ := List.getElem_of_mem hx
  have := h j hj
  rw [List.getD, List.getElem?_eq_getElem hj] at this
  exact decide_eq_true this
theorem all6 {a b c d e f : Int} (h : ([a, b, c, d, e, f].all fun x => decide (S30 x)) = true) : S30 a ∧ S30 b ∧ S30 c ∧ S30 d ∧ S30 e ∧ S30 f := by
  simpa using h
theorem mul_kl {x y k l : Int} (hx : -k ≤ x ∧ x ≤ k) (hy : 0 ≤ y ∧ y ≤ l) : -(k * l) ≤ x * y ∧ x * y ≤ k * l := by
  have h0 : 0 ≤ k := by omega
  have h2 : k * y ≤ k * l := Int.mul_le_mul_of_nonneg_left hy.2 h0
  constructor
  · have h1 : -k * y ≤ x * y := Int.mul_le_mul_of_nonneg_right hx.1 hy.1
    rw [Int.neg_mul] at h1
    omega
  · have h1 : x * y ≤ k * y := Int.mul_le_mul_of_nonneg_right hx.2 hy.1
    omega
theorem abs_kl {x y k l : Int} (hx : -k ≤ x ∧ x ≤ k) (hy : -l ≤ y ∧ y ≤ l) : -(k * l) ≤ x * y ∧ x * y ≤ k * l := by
  rcases Int.le_total 0 y with h | h
  · exact mul_kl hx ⟨h, hy.2⟩
  · have := mul_kl (y := -y) (l := l) hx ⟨by omega, by omega⟩
    rw [Int.mul_neg] at this
    omega
theorem S30.q {x : Int} (h : S30 x) : 0 ≤ x * x ∧ x * x ≤ 1152921504606846976 := by
  have h1 := abs_kl (x := x) (y := x) (k := 1073741824) (l := 1073741824) (by unfold S30 at h; omega) (by unfold S30 at h; omega)
  have h2 : 0 ≤ x * x := by
    rcases Int.le_total 0 x with h | h
    · exact Int.mul_nonneg h h
    · exact Int.mul_nonneg_of_nonpos_of_nonpos h h
  omega
theorem S30.i {x : Int} (h : S30 x) : I64 x := by unfold S30 at h; unfold I64; omega
theorem S30.det {a b c d : Int} (ha : S30 a) (hb : S30 b) (hc : S30 c) (hd : S30 d) : -2305843009213693952 ≤ det a b c d ∧ det a b c d ≤ 2305843009213693952 := by
  have h1 := abs_kl (x := a) (y := d) (k := 1073741824) (l := 1073741824) (by unfold S30 at ha; omega) (by unfold S30 at hd; omega)
  have h2 := abs_kl (x := b) (y := c) (k := 1073741824) (l := 1073741824) (by unfold S30 at hb; omega) (by unfold S30 at hc; omega)
  unfold Go.Proofs.Ytbanlhlggkdanaa.det; omega
/-- what pred.Circle tells the sign of -/
def inc (a1 a2 e1 e2 c1 c2 : Int) : Int := det e1 e2 c1 c2 * (a1 * a1 + a2 * a2) + det c1 c2 a1 a2 * (e1 * e1 + e2 * e2) + det a1 a2 e1 e2 * (c1 * c1 + c2 * c2)
theorem S30.term {a b c d x y : Int} (ha : S30 a) (hb : S30 b) (hc : S30 c) (hd : S30 d) (hx : S30 x) (hy : S30 y) : -5316911983139663491615228241121378304 ≤ Go.Proofs.Ytbanlhlggkdanaa.det a b c d * (x * x + y * y) ∧ Go.Proofs.Ytbanlhlggkdanaa.det a b c d * (x * x + y * y) ≤ 5316911983139663491615228241121378304 := by
  have h1 := S30.det ha hb hc hd
  have h2 := hx.q
  have h3 := hy.q
  exact mul_kl (k := 2305843009213693952) (l := 2305843009213693952) (by omega) (by omega)
abbrev NumT := Int × Option Addr × Nat
def numCells (L : List NumT) : List Value := L.flatMap fun t => [.bool (decide (t.1 < 0)), .slice t.2.1 (dl t.1) t.2.2]
def psum : List NumT → Int
  | [] => 0
  | t :: r => t.1 + psum r
theorem psum_succ : ∀ {L : List NumT} {i : Nat} {t : NumT}, L[i]? = some t → psum (L.take (i + 1)) = psum (L.take i) + t.1
  | [], i, t, h => by simp at h
  | u :: L, 0, t, h => by
    simp at h
    subst h
    simp [psum]
  | u :: L, i + 1, t, h => by
    have := psum_succ (L := L) (i := i) (t := t) (by simpa using h)
    simp only [List.take_succ_cons, psum] at this ⊢
    omega
theorem numCells_get : ∀ {L : List NumT} {i : Nat} {t : NumT}, L[i]? = some t → ((numCells L).drop (i * 2)).take 2 = [.bool (decide (t.1 < 0)), .slice t.2.1 (dl t.1) t.2.2]
  | [], i, t, h => by simp at h
  | u :: L, 0, t, h => by
    simp at h
    subst h
    simp [numCells]
  | u :: L, i + 1, t, h => by
    have := numCells_get (L := L) (i := i) (t := t) (by simpa using h)
    rw [← this, Nat.succ_mul]
    simp [numCells]
theorem sub_round {a b c : Res} {l : List Res} : ∀ r, r ∈ b :: l → r ∈ a :: b :: c :: l := fun r hr => by
  rcases List.mem_cons.1 hr with rfl | hr
  · exact .tail _ (.head _)
  · exact .tail _ (.tail _ (.tail _ hr))
theorem dl_zero : dl 0 = 0 := by unfold dl; rw [Int.natAbs_zero, digits_zero]; rfl
theorem dF_nil (w : World) : (numF 0 none).p w (fun _ => False) := by
  have : numF 0 none = lF none [] := by unfold numF dF lF; rw [Int.natAbs_zero, digits_zero]
  rw [this]
  exact sliceR_nil 1 none w


set_option maxRecDepth 100000 in
set_option maxHeartbeats 1000000 in
theorem small_c {A : Option Addr} {n c : Nat} {l : List Int} (hn : n = l.length) (hl : l.length ≤ 1000) : Tri Try.prog 88 [.slice A n c] [] [sliceR 1 A l.length (Iv l)] (Ret0 (.bool (l.all fun x => decide (S30 x)))) := by
  refine Tri_of (N := 18) Try.func88 rfl ent_88 rfl rfl ?_
  intro w0 S0 T0
  show CJ _ _ _ [(0, _)] _ _
  subst hn
  refine CJ_seq ?_
  refine CJ_reg ?_
  refine LJ_y rfl rfl (YJ_assign rfl) ?_
  refine LJ_nil ?_
  refine QJ_then ?_
  refine CJ_seq ?_
  refine CJ_seq ?_
  refine CJ_reg ?_
  refine LJ_y rfl rfl (YJ_move rfl) ?_
  refine LJ_y rfl rfl (YJ_len rfl ulen_55 rfl) ?_
  refine LJ_y rfl rfl (YJ_move rfl) ?_
  refine LJ_nil ?_
  refine QJ_then ?_
  refine CJ_block ?_
  refine CJ_loop (F := fun (x : Nat) => ⟨[(5, .slice A l.length c), (6, .int .i64 (l.length : Int)), (7, .int .i64 (x : Int))], [], [sliceR 1 A l.length (Iv l)]⟩) (I := fun (x : Nat) => x ≤ l.length ∧ ∀ j, j < x → S30 (l.getD j 0)) (m := fun (x : Nat) => l.length - x) 0 (μr := []) ⟨Nat.zero_le _, fun j hj => absurd hj (Nat.not_lt_zero j)⟩ (And.intro rfl (And.intro rfl (And.intro rfl (trivial)))) (List.Perm.refl _) (fun _ h => h) ?_
  rintro i ⟨hi, hr⟩
  try dsimp only at hi
  try dsimp only at hr
  show CJ _ _ _ [(5, .slice A l.length c), (6, .int .i64 (l.length : Int)), (7, .int .i64 (i : Int))] [] [sliceR 1 A l.length (Iv l)]
  refine CJ_seq ?_
  refine CJ_reg ?_
  refine LJ_y rfl rfl (YJ_bin rfl rfl rfl) ?_
  refine LJ_nil ?_
  refine QJ_then ?_
  refine CJ_seq ?_
  refine CJ_cond rfl (fun h8 => ?_) (fun h8 => ?_)
  · try simp only [decide_eq_true_eq, decide_eq_false_iff_not, Bool.not_eq_true', Bool.not_eq_false', Bool.and_eq_true, Bool.and_eq_false_iff, beq_iff_eq, bne_iff_ne, beq_eq_false_iff_ne, bne_eq_false_iff_eq, ne_eq, decide_eq_decide] at h8
    refine CJ_skip ?_
    refine QJ_then ?_
    refine CJ_seq ?_
    refine CJ_block ?_
    refine CJ_seq ?_
    refine CJ_reg ?_
    first | refine LJ_y rfl rfl (YJ_ixOwn rfl rfl elt_55 (by omega) (by omega)) ?_ | refine LJ_y rfl rfl (YJ_ixFact rfl rfl elt_55 (by repeat first | exact .head _ | apply List.Mem.tail) (by decide) (by omega) (by omega) (by omega)) ?_
    refine LJ_y rfl rfl (YJ_loadFact (xs := Iv l) rfl tyi_3 (by repeat first | exact .head _ | apply List.Mem.tail) (Iv_get' (k := i) (by omega) (by omega))) ?_
    refine LJ_y rfl rfl (YJ_assign rfl) ?_
    refine LJ_nil ?_
    refine QJ_then ?_
    refine CJ_seq ?_
    refine CJ_reg ?_
    refine LJ_y rfl rfl (YJ_move rfl) ?_
    refine LJ_y rfl rfl (YJ_bin rfl rfl rfl) ?_
    refine LJ_y rfl rfl (YJ_move rfl) ?_
    refine LJ_boolC (fun h13 => ?_) (fun h13 => ?_)
    · try simp only [decide_eq_true_eq, decide_eq_false_iff_not, Bool.not_eq_true', Bool.not_eq_false', Bool.and_eq_true, Bool.and_eq_false_iff, beq_iff_eq, bne_iff_ne, beq_eq_false_iff_ne, bne_eq_false_iff_eq, ne_eq, decide_eq_decide] at h13
      refine LJ_skip rfl rfl ?_
      refine LJ_skip rfl rfl ?_
      refine LJ_y rfl rfl (YJ_pickT rfl rfl) ?_
      refine LJ_nil ?_
      refine QJ_then ?_
      refine CJ_condT rfl ?_
      refine CJ_seq ?_
      refine CJ_reg ?_
      refine LJ_y rfl rfl (YJ_assign rfl) ?_
      refine LJ_nil ?_
      refine QJ_then ?_
      refine CJ_ret ?_
      refine QJ_in_ret ?_
      refine QJ_then_ret ?_
      refine QJ_then_ret ?_
      refine QJ_in_ret ?_
      refine QJ_then_ret ?_
      refine QJ_fin (.inl rfl) (μ' := []) (μr := _) (φ' := []) (res_tmp rfl rfl) (List.Perm.refl _) (fun _ h => nomatch h) ?_
      exact ⟨congrArg Value.bool (s30_F (i := i) (by omega) (fun q => by unfold S30 at q; omega)), rfl, rfl⟩
    · try simp only [decide_eq_true_eq, decide_eq_false_iff_not, Bool.not_eq_true', Bool.not_eq_false', Bool.and_eq_true, Bool.and_eq_false_iff, beq_iff_eq, bne_iff_ne, beq_eq_false_iff_ne, bne_eq_false_iff_eq, ne_eq, decide_eq_decide] at h13
      refine LJ_y rfl rfl (YJ_move rfl) ?_
      refine LJ_y rfl rfl (YJ_bin rfl rfl rfl) ?_
      refine LJ_y rfl rfl (YJ_pickF rfl rfl) ?_
      refine LJ_nil ?_
      refine QJ_then ?_
      refine CJ_cond rfl (fun h16 => ?_) (fun h16 => ?_)
      · try simp only [decide_eq_true_eq, decide_eq_false_iff_not, Bool.not_eq_true', Bool.not_eq_false', Bool.and_eq_true, Bool.and_eq_false_iff, beq_iff_eq, bne_iff_ne, beq_eq_false_iff_ne, bne_eq_false_iff_eq, ne_eq, decide_eq_decide] at h16
        refine CJ_seq ?_
        refine CJ_reg ?_
        refine LJ_y rfl rfl (YJ_assign rfl) ?_
        refine LJ_nil ?_
        refine QJ_then ?_
        refine CJ_ret ?_
        refine QJ_in_ret ?_
        refine QJ_then_ret ?_
        refine QJ_then_ret ?_
        refine QJ_in_ret ?_
        refine QJ_then_ret ?_
        refine QJ_fin (.inl rfl) (μ' := []) (μr := _) (φ' := []) (res_tmp rfl rfl) (List.Perm.refl _) (fun _ h => nomatch h) ?_
        exact ⟨congrArg Value.bool (s30_F (i := i) (by omega) (fun q => by unfold S30 at q; omega)), rfl, rfl⟩
      · try simp only [decide_eq_true_eq, decide_eq_false_iff_not, Bool.not_eq_true', Bool.not_eq_false', Bool.and_eq_true, Bool.and_eq_false_iff, beq_iff_eq, bne_iff_ne, beq_eq_false_iff_ne, bne_eq_false_iff_eq, ne_eq, decide_eq_decide] at h16
        refine CJ_skip ?_
        refine QJ_in_normal ?_
        refine QJ_then ?_
        refine CJ_reg ?_
        first | refine LJ_y rfl rfl (YJ_bin rfl rfl (iop_add (by omega))) ?_ | refine LJ_y rfl rfl (YJ_bin rfl rfl rfl) ?_
        refine LJ_y rfl rfl (YJ_move rfl) ?_
        refine LJ_nil ?_
        refine QJ_round (F := fun (x : Nat) => ⟨[(5, .slice A l.length c), (6, .int .i64 (l.length : Int)), (7, .int .i64 (x : Int))], [], [sliceR 1 A l.length (Iv l)]⟩) (I := fun (x : Nat) => x ≤ l.length ∧ ∀ j, j < x → S30 (l.getD j 0)) (m := fun (x : Nat) => l.length - x) (i := i) ((i + 1)) (μr := []) ⟨by omega, all_step hr ⟨by omega, by omega⟩⟩ (by omega) (And.intro rfl (And.intro rfl (And.intro rfl (trivial)))) (List.Perm.refl _) (fun _ h => h)
  · try simp only [decide_eq_true_eq, decide_eq_false_iff_not, Bool.not_eq_true', Bool.not_eq_false', Bool.and_eq_true, Bool.and_eq_false_iff, beq_iff_eq, bne_iff_ne, beq_eq_false_iff_ne, bne_eq_false_iff_eq, ne_eq, decide_eq_decide] at h8
    obtain rfl : i = l.length := by omega
    refine CJ_exit ?_
    refine QJ_then_exit ?_
    refine QJ_then_exit ?_
    refine QJ_in_exit ?_
    refine QJ_then ?_
    refine CJ_seq ?_
    refine CJ_reg ?_
    refine LJ_y rfl rfl (YJ_assign rfl) ?_
    refine LJ_nil ?_
    refine QJ_then ?_
    refine CJ_ret ?_
    refine QJ_fin (.inl rfl) (μ' := []) (μr := _) (φ' := []) (res_tmp rfl rfl) (List.Perm.refl _) (fun _ h => nomatch h) ?_
    exact ⟨congrArg Value.bool (s30_T hr), rfl, rfl⟩

set_option maxRecDepth 100000 in
set_option maxHeartbeats 4000000 in
theorem quick_c {a1 a2 e1 e2 c1 c2 : Int} (ha1 : S30 a1) (ha2 : S30 a2) (he1 : S30 e1) (he2 : S30 e2) (hc1 : S30 c1) (hc2 : S30 c2) : Tri Try.prog 89 [.int .i64 a1, .int .i64 a2, .int .i64 e1, .int .i64 e2, .int .i64 c1, .int .i64 c2] [] [] (Ret0 (.int .i64 (sgn (inc a1 a2 e1 e2 c1 c2)))) := by
  refine Tri_of (N := 81) Try.func89 rfl ent_89 rfl rfl ?_
  intro w0 S0 T0
  show CJ _ _ _ [(0, _), (1, _), (2, _), (3, _), (4, _), (5, _)] _ _
  have bd1 := S30.det he1 he2 hc1 hc2
  have bd2 := S30.det hc1 hc2 ha1 ha2
  have bd3 := S30.det ha1 ha2 he1 he2
  have bt1 := S30.term he1 he2 hc1 hc2 ha1 ha2
  have bt2 := S30.term hc1 hc2 ha1 ha2 he1 he2
  have bt3 := S30.term ha1 ha2 he1 he2 hc1 hc2
  have rd1 : R128 (det e1 e2 c1 c2) := by unfold R128; omega
  have rd2 : R128 (det c1 c2 a1 a2) := by unfold R128; omega
  have rd3 : R128 (det a1 a2 e1 e2) := by unfold R128; omega
  have rt1 : R128 (det e1 e2 c1 c2 * (a1 * a1 + a2 * a2)) := by unfold R128; omega
  have rt2 : R128 (det c1 c2 a1 a2 * (e1 * e1 + e2 * e2)) := by unfold R128; omega
  have rt3 : R128 (det a1 a2 e1 e2 * (c1 * c1 + c2 * c2)) := by unfold R128; omega
  have rs1 : R128 (det e1 e2 c1 c2 * (a1 * a1 + a2 * a2) + det c1 c2 a1 a2 * (e1 * e1 + e2 * e2)) := by unfold R128; omega
  have rs2 : R128 (inc a1 a2 e1 e2 c1 c2) := by unfold inc R128; omega
  refine CJ_seq ?_
  refine CJ_reg ?_
  refine LJ_y rfl rfl (YJ_assign rfl) ?_
  refine LJ_nil ?_
  refine QJ_then ?_
  refine CJ_seq ?_
  refine CJ_reg ?_
  refine LJ_y rfl rfl (YJ_move rfl) ?_
  refine LJ_y rfl rfl (YJ_move rfl) ?_
  refine LJ_y rfl rfl (YJ_move rfl) ?_
  refine LJ_y rfl rfl (YJ_move rfl) ?_
  refine LJ_callX rfl rfl rfl rfl rfl (wdet_c he1.i he2.i hc1.i hc2.i) (AllIn.sub (by first | exact trivial | exact And.intro (by repeat first | exact .head _ | apply List.Mem.tail) trivial | exact And.intro (by repeat first | exact .head _ | apply List.Mem.tail) (And.intro (by repeat first | exact .head _ | apply List.Mem.tail) trivial))) ?_
  rw [if_pos rd1]
  rintro ⟨hid1, lod1⟩ d1
  dsimp only [wvP, List.cons_append, List.nil_append] at d1 ⊢
  refine LJ_y rfl rfl (YJ_move rfl) ?_
  refine LJ_y rfl rfl (YJ_move rfl) ?_
  refine LJ_y rfl rfl (YJ_bin rfl rfl (iop_mul (by have := ha1.q; omega))) ?_
  refine LJ_y rfl rfl (YJ_move rfl) ?_
  refine LJ_y rfl rfl (YJ_move rfl) ?_
  refine LJ_y rfl rfl (YJ_bin rfl rfl (iop_mul (by have := ha2.q; omega))) ?_
  refine LJ_y rfl rfl (YJ_bin rfl rfl (iop_add (by have := ha1.q; have := ha2.q; omega))) ?_
  refine LJ_callX rfl rfl rfl rfl rfl (wtimes_c d1 rd1 (by have := ha1.q; have := ha2.q; unfold I64; omega)) (AllIn.sub (by first | exact trivial | exact And.intro (by repeat first | exact .head _ | apply List.Mem.tail) trivial | exact And.intro (by repeat first | exact .head _ | apply List.Mem.tail) (And.intro (by repeat first | exact .head _ | apply List.Mem.tail) trivial))) ?_
  rw [if_pos rt1, decide_eq_true rt1]
  rintro ⟨hit1, lot1⟩ t1
  dsimp only [wvP, List.cons_append, List.nil_append] at t1 ⊢
  refine LJ_y rfl rfl (YJ_move rfl) ?_
  refine LJ_y rfl rfl (YJ_extract rfl rfl) ?_
  refine LJ_y rfl rfl (YJ_extract rfl rfl) ?_
  refine LJ_alloc (cs := #[_, _]) rfl rfl zer_110 rfl ?_
  intro b1
  refine LJ_store (cs' := #[_, _]) (μ' := [_]) 0 rfl rfl rfl rfl tyi_110 rfl (Nat.le_of_ble_eq_true rfl) rfl rfl rfl ?_
  refine LJ_y rfl rfl (YJ_assign rfl) ?_
  refine LJ_nil ?_
  refine QJ_then ?_
  refine CJ_seq ?_
  refine CJ_reg ?_
  refine LJ_y rfl rfl (YJ_move rfl) ?_
  refine LJ_y rfl rfl (YJ_move rfl) ?_
  refine LJ_y rfl rfl (YJ_move rfl) ?_
  refine LJ_y rfl rfl (YJ_move rfl) ?_
  refine LJ_callX rfl rfl rfl rfl rfl (wdet_c hc1.i hc2.i ha1.i ha2.i) (AllIn.sub (by first | exact trivial | exact And.intro (by repeat first | exact .head _ | apply List.Mem.tail) trivial | exact And.intro (by repeat first | exact .head _ | apply List.Mem.tail) (And.intro (by repeat first | exact .head _ | apply List.Mem.tail) trivial))) ?_
  rw [if_pos rd2]
  rintro ⟨hid2, lod2⟩ d2
  dsimp only [wvP, List.cons_append, List.nil_append] at d2 ⊢
  refine LJ_y rfl rfl (YJ_move rfl) ?_
  refine LJ_y rfl rfl (YJ_move rfl) ?_
  refine LJ_y rfl rfl (YJ_bin rfl rfl (iop_mul (by have := he1.q; omega))) ?_
  refine LJ_y rfl rfl (YJ_move rfl) ?_
  refine LJ_y rfl rfl (YJ_move rfl) ?_
  refine LJ_y rfl rfl (YJ_bin rfl rfl (iop_mul (by have := he2.q; omega))) ?_
  refine LJ_y rfl rfl (YJ_bin rfl rfl (iop_add (by have := he1.q; have := he2.q; omega))) ?_
  refine LJ_callX rfl rfl rfl rfl rfl (wtimes_c d2 rd2 (by have := he1.q; have := he2.q; unfold I64; omega)) (AllIn.sub (by first | exact trivial | exact And.intro (by repeat first | exact .head _ | apply List.Mem.tail) trivial | exact And.intro (by repeat first | exact .head _ | apply List.Mem.tail) (And.intro (by repeat first | exact .head _ | apply List.Mem.tail) trivial))) ?_
  rw [if_pos rt2, decide_eq_true rt2]
  rintro ⟨hit2, lot2⟩ t2
  dsimp only [wvP, List.cons_append, List.nil_append] at t2 ⊢
  refine LJ_y rfl rfl (YJ_move rfl) ?_
  refine LJ_y rfl rfl (YJ_extract rfl rfl) ?_
  refine LJ_y rfl rfl (YJ_extract rfl rfl) ?_
  refine LJ_alloc (cs := #[_, _]) rfl rfl zer_110 rfl ?_
  intro b2
  refine LJ_store (cs' := #[_, _]) (μ' := [_, _]) 0 rfl rfl rfl rfl tyi_110 rfl (Nat.le_of_ble_eq_true rfl) rfl rfl rfl ?_
  refine LJ_y rfl rfl (YJ_assign rfl) ?_
  refine LJ_nil ?_
  refine QJ_then ?_
  refine CJ_seq ?_
  refine CJ_reg ?_
  refine LJ_y rfl rfl (YJ_move rfl) ?_
  refine LJ_y rfl rfl (YJ_move rfl) ?_
  refine LJ_y rfl rfl (YJ_move rfl) ?_
  refine LJ_y rfl rfl (YJ_move rfl) ?_
  refine LJ_callX rfl rfl rfl rfl rfl (wdet_c ha1.i ha2.i he1.i he2.i) (AllIn.sub (by first | exact trivial | exact And.intro (by repeat first | exact .head _ | apply List.Mem.tail) trivial | exact And.intro (by repeat first | exact .head _ | apply List.Mem.tail) (And.intro (by repeat first | exact .head _ | apply List.Mem.tail) trivial))) ?_
  rw [if_pos rd3]
  rintro ⟨hid3, lod3⟩ d3
  dsimp only [wvP, List.cons_append, List.nil_append] at d3 ⊢
  refine LJ_y rfl rfl (YJ_move rfl) ?_
  refine LJ_y rfl rfl (YJ_move rfl) ?_
  refine LJ_y rfl rfl (YJ_bin rfl rfl (iop_mul (by have := hc1.q; omega))) ?_
  refine LJ_y rfl rfl (YJ_move rfl) ?_
  refine LJ_y rfl rfl (YJ_move rfl) ?_
  refine LJ_y rfl rfl (YJ_bin rfl rfl (iop_mul (by have := hc2.q; omega))) ?_
  refine LJ_y rfl rfl (YJ_bin rfl rfl (iop_add (by have := hc1.q; have := hc2.q; omega))) ?_
  refine LJ_callX rfl rfl rfl rfl rfl (wtimes_c d3 rd3 (by have := hc1.q; have := hc2.q; unfold I64; omega)) (AllIn.sub (by first | exact trivial | exact And.intro (by repeat first | exact .head _ | apply List.Mem.tail) trivial | exact And.intro (by repeat first | exact .head _ | apply List.Mem.tail) (And.intro (by repeat first | exact .head _ | apply List.Mem.tail) trivial))) ?_
  rw [if_pos rt3, decide_eq_true rt3]
  rintro ⟨hit3, lot3⟩ t3
  dsimp only [wvP, List.cons_append, List.nil_append] at t3 ⊢
  refine LJ_y rfl rfl (YJ_move rfl) ?_
  refine LJ_y rfl rfl (YJ_extract rfl rfl) ?_
  refine LJ_y rfl rfl (YJ_extract rfl rfl) ?_
  refine LJ_alloc (cs := #[_, _]) rfl rfl zer_110 rfl ?_
  intro b3
  refine LJ_store (cs' := #[_, _]) (μ' := [_, _, _]) 0 rfl rfl rfl rfl tyi_110 rfl (Nat.le_of_ble_eq_true rfl) rfl rfl rfl ?_
  refine LJ_y rfl rfl (YJ_assign rfl) ?_
  refine LJ_nil ?_
  refine QJ_then ?_
  refine CJ_seq ?_
  refine CJ_reg ?_
  first | refine LJ_y rfl rfl (YJ_loadN (vs := [_, _]) rfl tyi_110 (by repeat first | exact .head _ | apply List.Mem.tail) rfl rfl) ?_ | refine LJ_y rfl rfl (YJ_loadFactN (vs := [_, _]) rfl tyi_110 (by repeat first | exact .head _ | apply List.Mem.tail) rfl rfl) ?_
  first | refine LJ_y rfl rfl (YJ_loadN (vs := [_, _]) rfl tyi_110 (by repeat first | exact .head _ | apply List.Mem.tail) rfl rfl) ?_ | refine LJ_y rfl rfl (YJ_loadFactN (vs := [_, _]) rfl tyi_110 (by repeat first | exact .head _ | apply List.Mem.tail) rfl rfl) ?_
  refine LJ_callX rfl rfl rfl rfl rfl (wadd_c t1 t2 rt1 rt2) (AllIn.sub (by first | exact trivial | exact And.intro (by repeat first | exact .head _ | apply List.Mem.tail) trivial | exact And.intro (by repeat first | exact .head _ | apply List.Mem.tail) (And.intro (by repeat first | exact .head _ | apply List.Mem.tail) trivial))) ?_
  rw [if_pos rs1, decide_eq_true rs1]
  rintro ⟨his1, los1⟩ s1
  dsimp only [wvP, List.cons_append, List.nil_append] at s1 ⊢
  refine LJ_y rfl rfl (YJ_move rfl) ?_
  refine LJ_y rfl rfl (YJ_extract rfl rfl) ?_
  refine LJ_y rfl rfl (YJ_extract rfl rfl) ?_
  refine LJ_store (cs' := #[_, _]) (μ' := [_, _, _]) 2 rfl rfl rfl rfl tyi_110 rfl (Nat.le_of_ble_eq_true rfl) rfl rfl rfl ?_
  refine LJ_nil ?_
  refine QJ_then ?_
  refine CJ_seq ?_
  refine CJ_reg ?_
  first | refine LJ_y rfl rfl (YJ_loadN (vs := [_, _]) rfl tyi_110 (by repeat first | exact .head _ | apply List.Mem.tail) rfl rfl) ?_ | refine LJ_y rfl rfl (YJ_loadFactN (vs := [_, _]) rfl tyi_110 (by repeat first | exact .head _ | apply List.Mem.tail) rfl rfl) ?_
  first | refine LJ_y rfl rfl (YJ_loadN (vs := [_, _]) rfl tyi_110 (by repeat first | exact .head _ | apply List.Mem.tail) rfl rfl) ?_ | refine LJ_y rfl rfl (YJ_loadFactN (vs := [_, _]) rfl tyi_110 (by repeat first | exact .head _ | apply List.Mem.tail) rfl rfl) ?_
  refine LJ_callX rfl rfl rfl rfl rfl (show Tri _ _ _ _ _ (RetWo (inc a1 a2 e1 e2 c1 c2)) from wadd_c s1 t3 rs1 rt3) (AllIn.sub (by first | exact trivial | exact And.intro (by repeat first | exact .head _ | apply List.Mem.tail) trivial | exact And.intro (by repeat first | exact .head _ | apply List.Mem.tail) (And.intro (by repeat first | exact .head _ | apply List.Mem.tail) trivial))) ?_
  rw [if_pos rs2, decide_eq_true rs2]
  rintro ⟨his2, los2⟩ s2
  dsimp only [wvP, List.cons_append, List.nil_append] at s2 ⊢
  refine LJ_y rfl rfl (YJ_move rfl) ?_
  refine LJ_y rfl rfl (YJ_extract rfl rfl) ?_
  refine LJ_y rfl rfl (YJ_extract rfl rfl) ?_
  refine LJ_store (cs' := #[_, _]) (μ' := [_, _, _]) 2 rfl rfl rfl rfl tyi_110 rfl (Nat.le_of_ble_eq_true rfl) rfl rfl rfl ?_
  refine LJ_nil ?_
  refine QJ_then ?_
  refine CJ_seq ?_
  refine CJ_reg ?_
  first | refine LJ_y rfl rfl (YJ_loadN (vs := [_, _]) rfl tyi_110 (by repeat first | exact .head _ | apply List.Mem.tail) rfl rfl) ?_ | refine LJ_y rfl rfl (YJ_loadFactN (vs := [_, _]) rfl tyi_110 (by repeat first | exact .head _ | apply List.Mem.tail) rfl rfl) ?_
  refine LJ_call0 rfl rfl rfl rfl rfl (wsign_c s2 rs2) (AllIn.sub (by first | exact trivial | exact And.intro (by repeat first | exact .head _ | apply List.Mem.tail) trivial | exact And.intro (by repeat first | exact .head _ | apply List.Mem.tail) (And.intro (by repeat first | exact .head _ | apply List.Mem.tail) trivial))) ?_
  refine LJ_y rfl rfl (YJ_assign rfl) ?_
  refine LJ_nil ?_
  refine QJ_then ?_
  refine CJ_ret ?_
  refine QJ_fin (.inl rfl) (μ' := []) (μr := _) (φ' := []) (res_tmp rfl rfl) (List.Perm.refl _) (fun _ h => nomatch h) ?_
  exact ⟨rfl, rfl, rfl⟩

set_option maxRecDepth 100000 in
set_option maxHeartbeats 1000000 in
theorem csq_c {x y : Int} (hx : T62 x) (hy : T62 y) : Tri Try.prog 90 [.int .i64 x, .int .i64 y] [] [] (RetN (x * x + y * y)) := by
  refine Tri_of (N := 14) Try.func90 rfl ent_90 rfl rfl ?_
  intro w0 S0 T0
  show CJ _ _ _ [(0, _), (1, _)] _ _
  refine CJ_seq ?_
  refine CJ_reg ?_
  refine LJ_alloc (cs := #[_, _]) rfl rfl zer_100 rfl ?_
  intro b1
  refine LJ_nil ?_
  refine QJ_then ?_
  refine CJ_seq ?_
  refine CJ_reg ?_
  refine LJ_y rfl rfl (YJ_move rfl) ?_
  refine LJ_y rfl rfl (YJ_move rfl) ?_
  refine LJ_callX rfl rfl rfl rfl rfl (wmul_c hx.i hx.i) (AllIn.sub (by first | exact trivial | exact And.intro (by repeat first | exact .head _ | apply List.Mem.tail) trivial | exact And.intro (by repeat first | exact .head _ | apply List.Mem.tail) (And.intro (by repeat first | exact .head _ | apply List.Mem.tail) trivial))) ?_
  rintro ⟨hiv, lov⟩ v
  dsimp only [wvP, List.cons_append, List.nil_append] at v ⊢
  refine LJ_callX rfl rfl rfl rfl rfl (wnum_c v (mul_r62 hx hx)) (AllIn.sub (by first | exact trivial | exact And.intro (by repeat first | exact .head _ | apply List.Mem.tail) trivial | exact And.intro (by repeat first | exact .head _ | apply List.Mem.tail) (And.intro (by repeat first | exact .head _ | apply List.Mem.tail) trivial))) ?_
  rintro ⟨A1, k1⟩ hcap1
  dsimp only at hcap1
  dsimp only [List.cons_append, List.nil_append]
  refine LJ_y rfl rfl (YJ_move rfl) ?_
  refine LJ_y rfl rfl (YJ_move rfl) ?_
  refine LJ_callX rfl rfl rfl rfl rfl (wmul_c hy.i hy.i) (AllIn.sub (by first | exact trivial | exact And.intro (by repeat first | exact .head _ | apply List.Mem.tail) trivial | exact And.intro (by repeat first | exact .head _ | apply List.Mem.tail) (And.intro (by repeat first | exact .head _ | apply List.Mem.tail) trivial))) ?_
  rintro ⟨hiw, low⟩ w
  dsimp only [wvP, List.cons_append, List.nil_append] at w ⊢
  refine LJ_callX rfl rfl rfl rfl rfl (wnum_c w (mul_r62 hy hy)) (AllIn.sub (by first | exact trivial | exact And.intro (by repeat first | exact .head _ | apply List.Mem.tail) trivial | exact And.intro (by repeat first | exact .head _ | apply List.Mem.tail) (And.intro (by repeat first | exact .head _ | apply List.Mem.tail) trivial))) ?_
  rintro ⟨A2, k2⟩ hcap2
  dsimp only at hcap2
  dsimp only [List.cons_append, List.nil_append]
  refine LJ_callX rfl rfl rfl rfl rfl (nadd_c (dl_big (mul_r62 hx hx)) (dl_big (mul_r62 hy hy)) hcap1 hcap2) (AllIn.sub (And.intro (by repeat first | exact .head _ | apply List.Mem.tail) (And.intro (by repeat first | exact .head _ | apply List.Mem.tail) trivial))) ?_
  rintro ⟨A3, k3⟩ hcap3
  dsimp only at hcap3
  dsimp only [List.cons_append, List.nil_append]
  refine LJ_store (cs' := #[_, _]) (μ' := [_]) 0 rfl rfl rfl rfl tyi_100 rfl (Nat.le_of_ble_eq_true rfl) rfl rfl rfl ?_
  refine LJ_nil ?_
  refine QJ_then ?_
  refine CJ_ret ?_
  refine QJ_fin (.inl rfl) (μ' := []) (μr := _) (φ' := [numF (x * x + y * y) A3]) (res_cell (vs := [_, _]) rfl rfl (by repeat first | exact .head _ | apply List.Mem.tail) tyi_100 rfl) (List.Perm.refl _) (AllIn.sub (And.intro (.head _) trivial)) ?_
  exact ⟨(A3, k3), hcap3, rfl, rfl, rfl⟩

set_option maxRecDepth 100000 in
set_option maxHeartbeats 1000000 in
theorem cdet_c {a e c d : Int} (ha : T62 a) (he : T62 e) (hc : T62 c) (hd : T62 d) : Tri Try.prog 92 [.int .i64 a, .int .i64 e, .int .i64 c, .int .i64 d] [] [] (RetN (det a e c d)) := by
  refine Tri_of (N := 15) Try.func92 rfl ent_92 rfl rfl ?_
  intro w0 S0 T0
  show CJ _ _ _ [(0, _), (1, _), (2, _), (3, _)] _ _
  refine CJ_seq ?_
  refine CJ_reg ?_
  refine LJ_alloc (cs := #[_, _]) rfl rfl zer_100 rfl ?_
  intro b1
  refine LJ_nil ?_
  refine QJ_then ?_
  refine CJ_seq ?_
  refine CJ_reg ?_
  refine LJ_y rfl rfl (YJ_move rfl) ?_
  refine LJ_y rfl rfl (YJ_move rfl) ?_
  refine LJ_y rfl rfl (YJ_move rfl) ?_
  refine LJ_y rfl rfl (YJ_move rfl) ?_
  refine LJ_callX rfl rfl rfl rfl rfl (wdet_c ha.i he.i hc.i hd.i) (AllIn.sub (by first | exact trivial | exact And.intro (by repeat first | exact .head _ | apply List.Mem.tail) trivial | exact And.intro (by repeat first | exact .head _ | apply List.Mem.tail) (And.intro (by repeat first | exact .head _ | apply List.Mem.tail) trivial))) ?_
  rw [if_pos (det_r ha he hc hd)]
  rintro ⟨hiv, lov⟩ v
  dsimp only [wvP, List.cons_append, List.nil_append] at v ⊢
  refine LJ_callX rfl rfl rfl rfl rfl (wnum_c v (det_r ha he hc hd)) (AllIn.sub (by first | exact trivial | exact And.intro (by repeat first | exact .head _ | apply List.Mem.tail) trivial | exact And.intro (by repeat first | exact .head _ | apply List.Mem.tail) (And.intro (by repeat first | exact .head _ | apply List.Mem.tail) trivial))) ?_
  rintro ⟨A1, k1⟩ hcap1
  dsimp only at hcap1
  dsimp only [List.cons_append, List.nil_append]
  refine LJ_store (cs' := #[_, _]) (μ' := [_]) 0 rfl rfl rfl rfl tyi_100 rfl (Nat.le_of_ble_eq_true rfl) rfl rfl rfl ?_
  refine LJ_nil ?_
  refine QJ_then ?_
  refine CJ_ret ?_
  refine QJ_fin (.inl rfl) (μ' := []) (μr := _) (φ' := [numF (det a e c d) A1]) (res_cell (vs := [_, _]) rfl rfl (by repeat first | exact .head _ | apply List.Mem.tail) tyi_100 rfl) (List.Perm.refl _) (AllIn.sub (And.intro (.head _) trivial)) ?_
  exact ⟨(A1, k1), hcap1, rfl, rfl, rfl⟩

set_option maxRecDepth 100000 in
set_option maxHeartbeats 1000000 in
theorem nsum_c {A0 : Option Addr} {n c0 : Nat} {L : List NumT} (hn : n = L.length) (hl : L.length ≤ 10) (hL : ∀ t, t ∈ L → dl t.1 ≤ 1000 ∧ dl t.1 ≤ t.2.2) : Tri Try.prog 93 [.slice A0 n c0] [] (sliceR 2 A0 L.length (numCells L) :: L.map fun t => numF t.1 t.2.1) (RetN (psum L)) := by
  refine Tri_of (N := 17) Try.func93 rfl ent_93 rfl rfl ?_
  intro w0 S0 T0
  show CJ _ _ _ [(0, _)] _ _
  subst hn
  refine CJ_seq ?_
  refine CJ_reg ?_
  refine LJ_alloc (cs := #[_, _]) rfl rfl zer_100 rfl ?_
  intro b1
  refine LJ_nil ?_
  refine QJ_then ?_
  refine CJ_seq ?_
  refine CJ_reg ?_
  refine LJ_alloc (cs := #[_, _]) rfl rfl zer_100 rfl ?_
  intro b2
  refine LJ_newF (r' := numF 0 none) dF_nil ?_
  refine LJ_nil ?_
  refine QJ_then ?_
  refine CJ_seq ?_
  refine CJ_seq ?_
  refine CJ_reg ?_
  refine LJ_y rfl rfl (YJ_move rfl) ?_
  refine LJ_y rfl rfl (YJ_len rfl ulen_169 rfl) ?_
  refine LJ_y rfl rfl (YJ_move rfl) ?_
  refine LJ_nil ?_
  refine QJ_then ?_
  refine CJ_block ?_
  refine CJ_loop (F := fun (x : Nat × Option Addr × Nat × Nat) => ⟨[(2, .pointer (some ⟨b1, 0, none⟩)), (3, .pointer (some ⟨b2, 0, none⟩)), (6, .slice A0 L.length c0), (7, .int .i64 (L.length : Int)), (8, .int .i64 (x.1 : Int))], [cellsR b2 #[.bool (decide (psum (L.take x.1) < 0)), .slice x.2.1 x.2.2.2 x.2.2.1] 100, cellsR b1 #[.bool false, .slice none 0 0] 100], (numF (psum (L.take x.1)) x.2.1 :: sliceR 2 A0 L.length (numCells L) :: L.map fun t => numF t.1 t.2.1)⟩) (I := fun (x : Nat × Option Addr × Nat × Nat) => x.1 ≤ L.length ∧ x.2.2.2 = dl (psum (L.take x.1)) ∧ dl (psum (L.take x.1)) ≤ x.1 * 1001 ∧ x.2.2.2 ≤ x.2.2.1) (m := fun (x : Nat × Option Addr × Nat × Nat) => L.length - x.1) (0, none, 0, 0) (μr := []) ⟨Nat.zero_le _, dl_zero.symm, Nat.le_of_eq dl_zero, Nat.le_refl _⟩ (And.intro rfl (And.intro rfl (And.intro rfl (And.intro rfl (And.intro rfl (trivial)))))) (List.Perm.refl _) (fun _ h => h) ?_
  rintro ⟨i, A, k, m⟩ ⟨hi, hm, hb, hk⟩
  try dsimp only at hi
  try dsimp only at hm
  try dsimp only at hb
  try dsimp only at hk
  show CJ _ _ _ [(2, .pointer (some ⟨b1, 0, none⟩)), (3, .pointer (some ⟨b2, 0, none⟩)), (6, .slice A0 L.length c0), (7, .int .i64 (L.length : Int)), (8, .int .i64 (i : Int))] [cellsR b2 #[.bool (decide (psum (L.take i) < 0)), .slice A m k] 100, cellsR b1 #[.bool false, .slice none 0 0] 100] (numF (psum (L.take i)) A :: sliceR 2 A0 L.length (numCells L) :: L.map fun t => numF t.1 t.2.1)
  subst hm
  refine CJ_seq ?_
  refine CJ_reg ?_
  refine LJ_y rfl rfl (YJ_bin rfl rfl rfl) ?_
  refine LJ_nil ?_
  refine QJ_then ?_
  refine CJ_seq ?_
  refine CJ_cond rfl (fun h9 => ?_) (fun h9 => ?_)
  · try simp only [decide_eq_true_eq, decide_eq_false_iff_not, Bool.not_eq_true', Bool.not_eq_false', Bool.and_eq_true, Bool.and_eq_false_iff, beq_iff_eq, bne_iff_ne, beq_eq_false_iff_ne, bne_eq_false_iff_eq, ne_eq, decide_eq_decide] at h9
    obtain ⟨t, ht⟩ : ∃ t, L[i]? = some t := ⟨L[i]'(by omega), List.getElem?_eq_getElem (by omega)⟩
    have htm : t ∈ L := List.mem_of_getElem? ht
    have htm2 : numF t.1 t.2.1 ∈ L.map (fun t => numF t.1 t.2.1) := List.mem_map.2 ⟨t, htm, rfl⟩
    have hL1 := hL t htm
    refine CJ_skip ?_
    refine QJ_then ?_
    refine CJ_seq ?_
    refine CJ_block ?_
    refine CJ_seq ?_
    refine CJ_reg ?_
    first | refine LJ_y rfl rfl (YJ_ixOwn rfl rfl elt_169 (by omega) (by omega)) ?_ | refine LJ_y rfl rfl (YJ_ixFact rfl rfl elt_169 (by repeat first | exact .head _ | apply List.Mem.tail) (by decide) (by omega) (by omega) (by omega)) ?_
    refine LJ_y rfl rfl (YJ_loadFactN (vs := [_, _]) (xs := numCells L) rfl tyi_100 (by repeat first | exact .head _ | apply List.Mem.tail) (numCells_get (i := i) ht) rfl) ?_
    refine LJ_alloc (cs := #[_, _]) rfl rfl zer_100 rfl ?_
    intro b3
    refine LJ_store (cs' := #[_, _]) (μ' := [_, _, _]) 0 rfl rfl rfl rfl tyi_100 rfl (Nat.le_of_ble_eq_true rfl) rfl rfl rfl ?_
    refine LJ_nil ?_
    refine QJ_then ?_
    refine CJ_reg ?_
    first | refine LJ_y rfl rfl (YJ_loadN (vs := [_, _]) rfl tyi_100 (by repeat first | exact .head _ | apply List.Mem.tail) rfl rfl) ?_ | refine LJ_y rfl rfl (YJ_loadFactN (vs := [_, _]) rfl tyi_100 (by repeat first | exact .head _ | apply List.Mem.tail) rfl rfl) ?_
    first | refine LJ_y rfl rfl (YJ_loadN (vs := [_, _]) rfl tyi_100 (by repeat first | exact .head _ | apply List.Mem.tail) rfl rfl) ?_ | refine LJ_y rfl rfl (YJ_loadFactN (vs := [_, _]) rfl tyi_100 (by repeat first | exact .head _ | apply List.Mem.tail) rfl rfl) ?_
    refine LJ_callX rfl rfl rfl rfl rfl (nadd_c (a := psum (L.take i)) (b := t.1) (by omega) (by omega) hk hL1.2) (AllIn.sub (And.intro (.head _) (And.intro (.tail _ (.tail _ htm2)) trivial))) ?_
    rw [← psum_succ ht]
    rintro ⟨A1, k1⟩ hcap1
    dsimp only at hcap1
    dsimp only [List.cons_append, List.nil_append]
    refine LJ_store (cs' := #[_, _]) (μ' := [_, _, _]) 1 rfl rfl rfl rfl tyi_100 rfl (Nat.le_of_ble_eq_true rfl) rfl rfl rfl ?_
    refine LJ_freeze ?_
    refine LJ_nil ?_
    refine QJ_in_normal ?_
    refine QJ_then ?_
    refine CJ_reg ?_
    first | refine LJ_y rfl rfl (YJ_bin rfl rfl (iop_add (by omega))) ?_ | refine LJ_y rfl rfl (YJ_bin rfl rfl rfl) ?_
    refine LJ_y rfl rfl (YJ_move rfl) ?_
    refine LJ_nil ?_
    refine QJ_round (F := fun (x : Nat × Option Addr × Nat × Nat) => ⟨[(2, .pointer (some ⟨b1, 0, none⟩)), (3, .pointer (some ⟨b2, 0, none⟩)), (6, .slice A0 L.length c0), (7, .int .i64 (L.length : Int)), (8, .int .i64 (x.1 : Int))], [cellsR b2 #[.bool (decide (psum (L.take x.1) < 0)), .slice x.2.1 x.2.2.2 x.2.2.1] 100, cellsR b1 #[.bool false, .slice none 0 0] 100], (numF (psum (L.take x.1)) x.2.1 :: sliceR 2 A0 L.length (numCells L) :: L.map fun t => numF t.1 t.2.1)⟩) (I := fun (x : Nat × Option Addr × Nat × Nat) => x.1 ≤ L.length ∧ x.2.2.2 = dl (psum (L.take x.1)) ∧ dl (psum (L.take x.1)) ≤ x.1 * 1001 ∧ x.2.2.2 ≤ x.2.2.1) (m := fun (x : Nat × Option Addr × Nat × Nat) => L.length - x.1) (i := (i, A, k, dl (psum (L.take i)))) ((i + 1, A1, k1, dl (psum (L.take (i + 1))))) (μr := []) ⟨by omega, rfl, by have := dl_add (a := psum (L.take i)) (b := t.1) hb hL1.1; rw [psum_succ ht]; omega, hcap1⟩ (by omega) (And.intro rfl (And.intro rfl (And.intro rfl (And.intro rfl (And.intro rfl (trivial)))))) (List.Perm.refl _) (sub_round)
  · try simp only [decide_eq_true_eq, decide_eq_false_iff_not, Bool.not_eq_true', Bool.not_eq_false', Bool.and_eq_true, Bool.and_eq_false_iff, beq_iff_eq, bne_iff_ne, beq_eq_false_iff_ne, bne_eq_false_iff_eq, ne_eq, decide_eq_decide] at h9
    obtain rfl : i = L.length := by omega
    rw [List.take_length] at hk ⊢
    refine CJ_exit ?_
    refine QJ_then_exit ?_
    refine QJ_then_exit ?_
    refine QJ_in_exit ?_
    refine QJ_then ?_
    refine CJ_seq ?_
    refine CJ_reg ?_
    first | refine LJ_y rfl rfl (YJ_loadN (vs := [_, _]) rfl tyi_100 (by repeat first | exact .head _ | apply List.Mem.tail) rfl rfl) ?_ | refine LJ_y rfl rfl (YJ_loadFactN (vs := [_, _]) rfl tyi_100 (by repeat first | exact .head _ | apply List.Mem.tail) rfl rfl) ?_
    refine LJ_store (cs' := #[_, _]) (μ' := [_, _]) 1 rfl rfl rfl rfl tyi_100 rfl (Nat.le_of_ble_eq_true rfl) rfl rfl rfl ?_
    refine LJ_nil ?_
    refine QJ_then ?_
    refine CJ_ret ?_
    refine QJ_fin (.inl rfl) (μ' := []) (μr := _) (φ' := [numF (psum L) A]) (res_cell (vs := [_, _]) rfl rfl (by repeat first | exact .head _ | apply List.Mem.tail) tyi_100 rfl) (List.Perm.refl _) (AllIn.sub (And.intro (.head _) trivial)) ?_
    exact ⟨(A, k), hk, rfl, rfl, rfl⟩

end Go.Proofs.Ytbanlhlggkdanaa
