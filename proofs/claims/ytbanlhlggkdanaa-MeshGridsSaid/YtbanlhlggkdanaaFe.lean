/- What the law MeshGrids needs. Part 5: the texts of T8 T1 V11 T9 RowS RowT. -/
import Derived.Test.YtbanlhlggkdanaaFd
import Derived.Laws.IdiomArrays
import Derived.OpenShut
import Derived.ProofKit
import Derived.Lib.SmallJoins
import Derived.Below
import Derived.ChangeSame
set_option linter.unusedSimpArgs false
set_option linter.unusedVariables false
namespace Go.Proofs.Ytbanlhlggkdanaa
open Go.RowKit
theorem ent_43 : Enter Try.prog 43 = true := by kernel_rfl
theorem elt_90 : elt Try.prog 90 = some (95, 4, 24) := by kernel_rfl
theorem tyi_95 : tyi Try.prog 95 = some (true, 4) := by kernel_rfl
theorem ent_73 : Enter Try.prog 73 = true := by kernel_rfl
theorem zer_90 : zer Try.prog 90 = some (.slice none 0 0) := by kernel_rfl
theorem tyi_90 : tyi Try.prog 90 = some (false, 1) := by kernel_rfl
theorem lay_95 : lay1 Try.prog 95 = some [.int .i64 0, .int .i64 0, .bool false, .bool false] := by kernel_rfl
theorem zer_95 : zer Try.prog 95 = some (.agg #[.int .i64 0, .int .i64 0, .bool false, .bool false]) := by kernel_rfl
theorem ulen_90 : ((#[90] : Array TypeId)[0]?).bind Try.prog.underlying = some (.slice (Try.prog.elem ((#[90] : Array TypeId).getD 0 0))) := by kernel_rfl
def emit (tris : List Tr) (t : Tr) (k : Nat) : List Ed :=
 if ¬ isReal tris (t.n k) ∨ t.v ((k + 1) % 3) < t.v ((k + 2) % 3) then [(min (t.v ((k + 1) % 3)) (t.v ((k + 2) % 3)), max (t.v ((k + 1) % 3)) (t.v ((k + 2) % 3)), t.fl k, !decide (isReal tris (t.n k)))] else []
def emK (tris : List Tr) (t : Tr) (k : Nat) : List Ed := (List.range k).flatMap (emit tris t)
def edL (tris : List Tr) (l : List (Nat × Tr)) : List Ed := l.flatMap fun x => emK tris x.2 3
theorem emK_succ (tris : List Tr) (t : Tr) (k : Nat) : emK tris t (k + 1) = emK tris t k ++ emit tris t k := by
 unfold emK
 rw [List.range_succ, List.flatMap_append]
 simp
theorem edL_snoc (tris : List Tr) (pre : List (Nat × Tr)) (n : Nat) (t : Tr) : edL tris (pre ++ [(n, t)]) = edL tris pre ++ emK tris t 3 := by
 unfold edL
 rw [List.flatMap_append]
 simp
theorem emit_len (tris : List Tr) (t : Tr) (k : Nat) : (emit tris t k).length ≤ 1 := by
 unfold emit
 split <;> simp
theorem emK_len (tris : List Tr) (t : Tr) : ∀ k, (emK tris t k).length ≤ k
 | 0 => Nat.le_refl _
 | k + 1 => by
  rw [emK_succ, List.length_append]
  have := emK_len tris t k
  have := emit_len tris t k
  omega
theorem edL_len (tris : List Tr) : ∀ l, (edL tris l).length ≤ 3 * l.length
 | [] => Nat.le_refl _
 | x :: l => by
  have h1 := edL_len tris l
  have h2 := emK_len tris x.2 3
  show (emK tris x.2 3 ++ edL tris l).length ≤ _
  rw [List.length_append, List.length_cons]
  omega
theorem emit_T {tris : List Tr} {t : Tr} {k : Nat} (h : ¬ isReal tris (t.n k) ∨ t.v ((k + 1) % 3) < t.v ((k + 2) % 3)) {b : Bool} (hb : (!decide (isReal tris (t.n k))) = b) (L : List Ed) :
  edCells (L ++ emK tris t k) ++ [.int .i64 (min (t.v ((k + 1) % 3)) (t.v ((k + 2) % 3))), .int .i64 (max (t.v ((k + 1) % 3)) (t.v ((k + 2) % 3))), .bool (t.fl k), .bool b] = edCells (L ++ emK tris t (k + 1)) := by
 subst hb
 rw [emK_succ, emit, if_pos h, ← List.append_assoc, edCells, edCells, List.flatMap_append, List.flatMap_append, List.flatMap_append]
 rfl
theorem emit_Tl {tris : List Tr} {t : Tr} {k : Nat} (h : ¬ isReal tris (t.n k) ∨ t.v ((k + 1) % 3) < t.v ((k + 2) % 3)) : (emK tris t (k + 1)).length = (emK tris t k).length + 1 := by
 rw [emK_succ, emit, if_pos h, List.length_append]
 rfl
theorem emit_F {tris : List Tr} {t : Tr} {k : Nat} (h : ¬ (¬ isReal tris (t.n k) ∨ t.v ((k + 1) % 3) < t.v ((k + 2) % 3))) : emK tris t (k + 1) = emK tris t k := by
 rw [emK_succ, emit, if_neg h, List.append_nil]
def encE (e : Ed) : List Value := [.agg e.cells.toArray]
theorem ed_row : ∀ {l : List Ed} {i : Nat} {e : Ed}, l[i]? = some e → ((edCells l).drop (i * 4)).take 4 = e.cells
 | [], i, e, h => by simp at h
 | x :: l, 0, e, h => by
  obtain rfl : x = e := Option.some.inj h
  show ((x.cells ++ edCells l).drop 0).take 4 = _
  rfl
 | x :: l, i + 1, e, h => by
  show ((x.cells ++ edCells l).drop ((i + 1) * 4)).take 4 = _
  rw [List.drop_append, List.drop_of_length_le (show x.cells.length ≤ (i + 1) * 4 by show 4 ≤ _; omega), List.nil_append, show (i + 1) * 4 - x.cells.length = i * 4 by show (i + 1) * 4 - 4 = _; omega]
  exact ed_row (l := l) h
theorem reals_len : ∀ (l : List Tr) (k : Nat), (realsF k l).length ≤ l.length
 | [], _ => Nat.le_refl _
 | t :: l, k => by
  unfold realsF
  have := reals_len l (k + 1)
  split
  ·rw [List.length_cons, List.length_cons]; omega
  ·rw [List.length_cons]; omega
section
variable {E : Env} {Q : Qt} {σ : List (Nat × Value)} {μ φ : List Res} {ops : Array Oper} {rest : List Oper} {cd : Code}
theorem CJ_closeBig0 (h : CJ E Q cd σ [bigR μ] φ) : CJ E Q cd σ μ φ := fun a w ha hm => h a w ha (OKm.closeBig (l := μ) (by simpa using hm))
theorem LY_openBigK {l : List Res} (k : Nat) (hk : μ[k]? = some (bigR l)) (h : LY E Q ops rest σ (l ++ μ.eraseIdx k) φ) : LY E Q ops rest σ μ φ := fun a w ha hm => h a w ha (hm.weak (μr := []) (by simpa using perm_at hk) (fun _ h => h)).openBig
theorem LY_closeBig {l : List Res} (h : LY E Q ops rest σ (bigR l :: μ) φ) : LY E Q ops rest σ (l ++ μ) φ := fun a w ha hm => h a w ha hm.closeBig
theorem QJ_finB {fn : Func} {post : Value → List Res → List Res → Prop} {e : Exit} (he : e = .ret ∨ e = .normal) (Ds : List Nat) (hds : E.ds = Ds.map markD) {v : Value} {μ' φ' μr : List Res} (hr : ∀ a w, Slots σ a → Hold w (μ' ++ μr) → Hold w φ → (results fn a.tmps).run E.P w = .ok v w) (hp : List.Perm μ (bigR μ' :: (Ds.map (fun D => defR D) ++ μr))) (hf : ∀ r, r ∈ φ' → r ∈ φ)
  (hpost : post v μ' φ') : QJ E (FinM E.P fn E.w0 E.S0 E.T0 post) e σ μ φ := fun a w ha hm =>
 QJ_finM he Ds hds hr (List.Perm.refl _) hf hpost a w ha (((hm.weak (μr := []) (by simpa using hp) (fun _ h => h)).openBig).weak (μr := []) (by simpa using List.perm_append_comm_assoc ..) (fun _ h => h))
end
set_option maxRecDepth 100000 in
set_option maxHeartbeats 1000000 in
theorem edges_c {B : Nat} : Tri Try.prog 43 [.pointer (some ⟨B, 0, none⟩)] [] [] (RetX (fun _ : Nat => True) (fun b => .func (.func 73) #[] #[.pointer (some ⟨b, 0, none⟩)]) (fun _ => []) (fun b => [sliceR 1 (some ⟨b, 0, none⟩) 1 [.pointer (some ⟨B, 0, none⟩)]])) := by
 refine Tri_of (N := 4) Try.func43 rfl ent_43 rfl rfl ?_
 intro w0 S0 T0
 show CJ _ _ _ [(0, _)] _ _
 refine CJ_seq ?_
 refine CJ_reg ?_
 refine LJ_box (cs := #[_]) rfl rfl rfl rfl ?_
 intro b1
 refine LJ_freeze ?_
 refine LJ_addF (r' := sliceR 1 (some ⟨b1, 0, none⟩) 1 [.pointer (some ⟨B, 0, none⟩)]) (.head _) (fun w S h => cellsR_slice (n := 1) rfl w S h) ?_
 refine LJ_y rfl rfl (YJ_assign rfl) ?_
 refine LJ_nil ?_
 refine QJ_then ?_
 refine CJ_seq ?_
 refine CJ_reg ?_
 refine LJ_y rfl rfl (YJ_makeFunc (vs := []) (us := [_]) rfl rfl) ?_
 refine LJ_y rfl rfl (YJ_assign rfl) ?_
 refine LJ_nil ?_
 refine QJ_then ?_
 refine CJ_ret ?_
 refine QJ_fin (.inl rfl) (μ' := []) (μr := _) (φ' := [_]) (res_tmp rfl rfl) (List.Perm.refl _) (fun r h => by rw [List.mem_singleton] at h; subst h; exact .head _) ?_
 exact ⟨b1, trivial, rfl, rfl, rfl⟩
theorem ed_sub0 {a b d p q u : List Res} {s : Res} : ∀ r, r ∈ a → r ∈ s :: (p ++ (q ++ (u ++ (b ++ (a ++ d))))) := fun r h => by
 simp only [List.mem_append, List.mem_cons]
 exact .inr (.inr (.inr (.inr (.inr (.inl h)))))
theorem ed_sub {a b c d p q u : List Res} {s : Res} : ∀ r, r ∈ a ++ (b ++ c) → r ∈ a ++ (s :: (p ++ (q ++ (u ++ (b ++ (d ++ c)))))) := fun r h => by
 simp only [List.mem_append, List.mem_cons] at *
 rcases h with h | h | h
 ·exact .inl h
 ·exact .inr (.inr (.inr (.inr (.inr (.inl h)))))
 ·exact .inr (.inr (.inr (.inr (.inr (.inr (.inr h))))))
set_option maxRecDepth 100000 in
set_option maxHeartbeats 8000000 in
theorem edges1_c {b B : Nat} {h : Mh} {pts : List (Int × Int)} {tris : List Tr} {xs : List Ed} {l : Nat} {J Jx : List Ed → List Res → List Res → Prop} {φx : List Res} (hlen : tris.length ≤ 10000) (h09 : 0 < (edL tris (reals tris)).length) (hok : ∀ e, e ∈ edL tris (reals tris) → e.ok)
  (hxs : ∀ l' : List Ed, l'.Perm (edL tris (reals tris)) → l'.Pairwise (fun x y => ¬ edLt y x) → l' = xs)
  (hS : ∀ (A : Option Addr) (c : Nat) (l : List Ed), 0 < l.length → l.length ≤ 100000 → (∀ e, e ∈ l → e.ok) → Tri Try.prog 74 [.slice A l.length c, .func (.func 75) #[] #[]] [rowR 95 4 A l.length c (edCells l)] [] (RetX (fun l' : List Ed => l'.Perm l ∧ l'.Pairwise (fun x y => ¬ edLt y x)) (fun _ => .tuple #[]) (fun l' => [rowR 95 4 A l.length c (edCells l')]) (fun _ => [])))
  (hy : ∀ pre x μ φ, (pre ++ [x]) <+: xs → J pre μ φ → YTri Try.prog l (encE x) μ (φ ++ (allFs b B h pts tris ++ φx)) (fun v μ' φ' => (v = .bool true ∧ J (pre ++ [x]) μ' φ') ∨ (v = .bool false ∧ Jx (pre ++ [x]) μ' φ')))
  {μ φ : List Res} (hJ : J [] μ φ) : Tri Try.prog 73 [.func (.yield l) #[] #[], .pointer (some ⟨b, 0, none⟩)] μ (φ ++ (allFs b B h pts tris ++ φx)) (fun _ μ' φ' => J xs μ' φ' ∨ ∃ pre, pre <+: xs ∧ Jx pre μ' φ') := by
 refine Tri_ofM (N := 73) Try.func73 rfl ent_73 rfl rfl ?_
 intro w0 S0 T0
 show CJ _ _ _ [(0, _), (1, _)] _ _
 refine CJ_weak (σ' := [(0, _), (1, _)]) (μ' := μ) (μr := []) (φ' := allFs b B h pts tris ++ (φ ++ φx)) ⟨rfl, rfl, trivial⟩ (by simp) (fun r h => mem_sw r h) ?_
 refine CJ_closeBig0 ?_
 have hrl := reals_len tris 0
 have hel := edL_len tris (reals tris)
 have hrl2 : (reals tris).length ≤ tris.length := hrl
 refine CJ_seq ?_
 refine CJ_reg ?_
 refine LJ_alloc (cs := #[_]) rfl rfl zer_90 rfl ?_
 intro b1
 refine LJ_nil ?_
 refine QJ_then ?_
 refine CJ_seq ?_
 refine CJ_seq ?_
 refine CJ_newRow 95 4 ?_
 refine CJ_reg ?_
 refine LJ_y rfl rfl (YJ_loadFactP (A := some ⟨b, 0, none⟩) (j := 0) rfl rfl tyi_28 m0 rfl) ?_
 refine LJ_callX rfl rfl rfl rfl rfl (all_c (B := B)) (fun _ h => nomatch h) ?_
 intro bA _
 refine LJ_nil ?_
 refine QJ_then ?_
 refine CJ_block ?_
 refine CJ_rangeFunc (μr := [_]) rfl (all_it (h := h) (pts := pts) (tris := tris) (by omega)) (all_sub (fun r hr => List.mem_append_left _ (.tail _ hr))) (fun _ => rfl) (by kernel_rfl) (L := { ι := Option Addr × Nat × Nat, I := fun pre s => s.2.2 = (edL tris pre).length, F := fun pre s => ([cellsR b1 #[.slice s.1 s.2.2 s.2.1] 90, rowR 95 4 s.1 s.2.2 s.2.1 (edCells (edL tris pre))], []), κ := Unit, Ix := fun _ _ _ => False, Fx := fun _ _ => ([], []) }) (none, 0, 0) rfl (permI [1] rfl) (fun _ h => nomatch h) ?_ ?_ ?_
 ·intro lR DR fnR tmpsR WR SR TR pre xR iR hpre hI
  obtain ⟨q, t⟩ := xR
  obtain ⟨A0, c0, m0⟩ := iR
  dsimp only at hI
  have hel0 := edL_len tris pre
  have hpl := hpre.length_le
  rw [List.length_append] at hpl
  show RJ _ _ _ _ _ ((15, _) :: (14, _) :: _) (objR lR _ :: defR DR :: cellsR b1 #[.slice A0 m0 c0] 90 :: rowR 95 4 A0 m0 c0 (edCells (edL tris pre)) :: []) _
  refine RJ_reg (by kernel_rfl) ?_
  refine LJ_alloc (cs := #[_, _, _, _, _, _, _, _, _]) rfl rfl zer_37 rfl ?_
  intro b2
  refine LJ_store (cs' := #[.int .i64 t.v0, .int .i64 t.v1, .int .i64 t.v2, .int .i64 t.n0, .int .i64 t.n1, .int .i64 t.n2, .bool t.f0, .bool t.f1, .bool t.f2]) (μ' := [_, _, _, _, _]) 0 rfl rfl rfl rfl tyi_37 rfl (Nat.le_of_ble_eq_true rfl) rfl (wr_all rfl) rfl ?_
  refine LJ_nil ?_
  refine QJ_begin (μr := [_, _, _, _]) (permI [1] rfl) ?_
  refine RJ_block ?_
  refine RJ_seq ?_
  refine RJ_reg (by kernel_rfl) ?_
  refine LJ_y rfl rfl (YJ_move rfl) ?_
  refine LJ_nil ?_
  refine QJ_thenR (by repeat with_reducible first | exact no_round | exact no_begin | apply no_then | apply no_block) ?_
  refine RJ_block ?_
  rw [show edL tris pre = edL tris pre ++ emK tris t 0 by simp [emK]]
  refine RJ_loopF (F := fun (i : Nat × Option Addr × Nat × Nat) => ⟨[(1, .pointer (some ⟨b, 0, none⟩)), (3, .pointer (some ⟨b1, 0, none⟩)), (5, .pointer (some ⟨b2, 0, none⟩)), (16, .int .i64 (i.1 : Nat))], [cellsR b1 #[.slice i.2.1 i.2.2.2 i.2.2.1] 90, rowR 95 4 i.2.1 i.2.2.2 i.2.2.1 (edCells (edL tris pre ++ emK tris t i.1))], []⟩) (I := fun (i : Nat × Option Addr × Nat × Nat) => i.1 ≤ 3 ∧ i.2.2.2 = (edL tris pre ++ emK tris t i.1).length) (m := fun (i : Nat × Option Addr × Nat × Nat) => 3 - i.1) (0, A0, c0, m0) (μr := [_, _, _]) ⟨Nat.zero_le _, by dsimp only; rw [hI]; simp [emK]⟩ (And.intro rfl (And.intro rfl (And.intro rfl (And.intro rfl (trivial))))) (permI [3, 3] rfl) (fun _ h => nomatch h) ?_
  rintro ⟨k, A1, c1, m1⟩ ⟨hk, hm1⟩
  try dsimp only at hk
  try dsimp only at hm1
  show RJ _ _ _ _ _ [(1, .pointer (some ⟨b, 0, none⟩)), (3, .pointer (some ⟨b1, 0, none⟩)), (5, .pointer (some ⟨b2, 0, none⟩)), (16, .int .i64 (k : Nat))] (cellsR b1 #[.slice A1 m1 c1] 90 :: rowR 95 4 A1 m1 c1 (edCells (edL tris pre ++ emK tris t k)) :: _ :: _ :: _ :: _) _
  refine RJ_seq ?_
  refine RJ_reg (by kernel_rfl) ?_
  refine LJ_y rfl rfl (YJ_bin rfl rfl rfl) ?_
  refine LJ_nil ?_
  refine QJ_thenR (by repeat with_reducible first | exact no_round | exact no_begin | apply no_then | apply no_block) ?_
  refine RJ_seq ?_
  refine RJ_cond rfl (fun h17 => ?_) (fun h17 => ?_)
  ·simp only [decide_eq_true_eq] at h17
   have hk3 : k < 3 := by omega
   have hm2 := hm1
   rw [List.length_append] at hm2
   have hek := emK_len tris t k
   refine RJ_skip ?_
   refine QJ_thenR (by repeat with_reducible first | exact no_round | exact no_begin | apply no_then | apply no_block) ?_
   refine RJ_seq ?_
   refine RJ_block ?_
   refine RJ_seq ?_
   refine RJ_reg (by kernel_rfl) ?_
   refine LJ_y rfl rfl (YJ_move rfl) ?_
   refine LJ_y rfl rfl (YJ_assign rfl) ?_
   refine LJ_nil ?_
   refine QJ_thenR (by repeat with_reducible first | exact no_round | exact no_begin | apply no_then | apply no_block) ?_
   refine RJ_seq ?_
   refine RJ_regD mix (by kernel_rfl) (fun _ _ _ _ _ h => h) _ _ (fun _ h => h) (fun _ h => h) (by kernel_rfl) ?_
   refine AJ_y 0 rfl (by kernel_rfl) (by kernel_rfl) rfl rfl (YJ_move rfl) ?_
   refine AJ_y 1 rfl (by kernel_rfl) (by kernel_rfl) rfl rfl (YJ_bin rfl rfl (iop_add (by omega))) ?_
   refine AJ_y 2 rfl (by kernel_rfl) (by kernel_rfl) rfl rfl (YJ_rem rfl rfl (by first | decide | omega)) ?_
   refine AJ_val (v := .int .i64 (((k + 1) % 3 : Nat) : Int)) (congrArg (Value.int .i64) (tm3 (j := 1) hk3 (by decide))) ?_
   refine AJ_y 3 rfl (by kernel_rfl) (by kernel_rfl) rfl rfl (YJ_fieldOwn rfl fld_37_0 rfl) ?_
   refine AJ_y 4 rfl (by kernel_rfl) (by kernel_rfl) rfl rfl (YJ_ixArr rfl rfl arrt_34 (by omega) (by omega) rfl) ?_
   refine AJ_y 5 rfl (by kernel_rfl) (by kernel_rfl) rfl rfl (YJ_load1 rfl tyi_3 m3 (v_get (t := t) (Nat.mod_lt (k + 1) (by decide)))) ?_
   refine AJ_y 6 rfl (by kernel_rfl) (by kernel_rfl) rfl rfl (YJ_move rfl) ?_
   refine AJ_y 7 rfl (by kernel_rfl) (by kernel_rfl) rfl rfl (YJ_bin rfl rfl (iop_add (by omega))) ?_
   refine AJ_y 8 rfl (by kernel_rfl) (by kernel_rfl) rfl rfl (YJ_rem rfl rfl (by first | decide | omega)) ?_
   refine AJ_val (v := .int .i64 (((k + 2) % 3 : Nat) : Int)) (congrArg (Value.int .i64) (tm3 (j := 2) hk3 (by decide))) ?_
   refine AJ_y 9 rfl (by kernel_rfl) (by kernel_rfl) rfl rfl (YJ_fieldOwn rfl fld_37_0 rfl) ?_
   refine AJ_y 10 rfl (by kernel_rfl) (by kernel_rfl) rfl rfl (YJ_ixArr rfl rfl arrt_34 (by omega) (by omega) rfl) ?_
   refine AJ_y 11 rfl (by kernel_rfl) (by kernel_rfl) rfl rfl (YJ_load1 rfl tyi_3 m3 (v_get (t := t) (Nat.mod_lt (k + 2) (by decide)))) ?_
   refine AJ_y 12 rfl (by kernel_rfl) (by kernel_rfl) rfl rfl (YJ_assign rfl) ?_
   refine AJ_y 13 rfl (by kernel_rfl) (by kernel_rfl) rfl rfl (YJ_assign rfl) ?_
   refine AJ_done (by kernel_rfl) ?_
   refine QJ_thenR (by repeat with_reducible first | exact no_round | exact no_begin | apply no_then | apply no_block) ?_
   refine RJ_seq ?_
   refine RJ_regD mix (by kernel_rfl) (fun _ _ _ _ _ h => h) _ _ (fun _ h => h) (fun _ h => h) (by kernel_rfl) ?_
   refine AJ_y 0 rfl (by kernel_rfl) (by kernel_rfl) rfl rfl (YJ_loadFactP (A := some ⟨b, 0, none⟩) (j := 0) rfl rfl tyi_28 (by repeat first | exact .head _ | apply List.Mem.tail) rfl) ?_
   refine AJ_y 1 rfl (by kernel_rfl) (by kernel_rfl) rfl rfl (YJ_move rfl) ?_
   refine AJ_y 2 rfl (by kernel_rfl) (by kernel_rfl) rfl rfl (YJ_fieldOwn rfl fld_37_1 rfl) ?_
   refine AJ_y 3 rfl (by kernel_rfl) (by kernel_rfl) rfl rfl (YJ_ixArr rfl rfl arrt_34 (by omega) (by omega) rfl) ?_
   refine AJ_y 4 rfl (by kernel_rfl) (by kernel_rfl) rfl rfl (YJ_load1 rfl tyi_3 m3 (na_get (t := t) hk3)) ?_
   refine AJ_call0 5 rfl (by kernel_rfl) rfl rfl rfl rfl rfl (real_c (h := h) (pts := pts) (tris := tris)) (fun r hr => .tail _ (List.mem_append_right _ (List.mem_append_left _ (.tail _ hr)))) ?_
   refine AJ_y 6 rfl (by kernel_rfl) (by kernel_rfl) rfl rfl (YJ_not rfl) ?_
   refine AJ_y 7 rfl (by kernel_rfl) (by kernel_rfl) rfl rfl (YJ_assign rfl) ?_
   refine AJ_done (by kernel_rfl) ?_
   refine QJ_thenR (by repeat with_reducible first | exact no_round | exact no_begin | apply no_then | apply no_block) ?_
   refine RJ_seq ?_
   refine RJ_reg (by kernel_rfl) ?_
   refine LJ_y rfl rfl (YJ_move rfl) ?_
   refine LJ_y rfl rfl (YJ_move rfl) ?_
   refine LJ_boolC (fun h39 => ?_) (fun h39 => ?_)
   ·simp only [decide_eq_false_iff_not, Bool.not_eq_true'] at h39
    refine LJ_skip rfl rfl ?_
    refine LJ_skip rfl rfl ?_
    refine LJ_skip rfl rfl ?_
    refine LJ_y rfl rfl (YJ_pickT rfl rfl) ?_
    refine LJ_nil ?_
    refine QJ_thenR (by repeat with_reducible first | exact no_round | exact no_begin | apply no_then | apply no_block) ?_
    refine RJ_condT rfl ?_
    refine RJ_regM mix (by kernel_rfl) (fun _ _ _ _ _ h => h) (by kernel_rfl) [[15], [14, 15], [], [], []] ?_
    refine BJ_l 0 0 rfl (by kernel_rfl) (by kernel_rfl) (by kernel_rfl) rfl (by kernel_rfl) (by repeat first | exact .head _ | apply List.Mem.tail) rfl rfl (YJ_loadL rfl tyi_90 (by repeat first | exact .head _ | apply List.Mem.tail) rfl) ?_
    refine BJ_y 1 rfl (by kernel_rfl) (by kernel_rfl) (by kernel_rfl) rfl rfl (YJ_move rfl) ?_
    refine BJ_y 2 rfl (by kernel_rfl) (by kernel_rfl) (by kernel_rfl) rfl rfl (YJ_move rfl) ?_
    refine BJ_y 3 rfl (by kernel_rfl) (by kernel_rfl) (by kernel_rfl) rfl rfl (YJ_min2 rfl rfl) ?_
    refine BJ_y 4 rfl (by kernel_rfl) (by kernel_rfl) (by kernel_rfl) rfl rfl (YJ_move rfl) ?_
    refine BJ_y 5 rfl (by kernel_rfl) (by kernel_rfl) (by kernel_rfl) rfl rfl (YJ_move rfl) ?_
    refine BJ_y 6 rfl (by kernel_rfl) (by kernel_rfl) (by kernel_rfl) rfl rfl (YJ_max2 rfl rfl) ?_
    refine BJ_y 7 rfl (by kernel_rfl) (by kernel_rfl) (by kernel_rfl) rfl rfl (YJ_move rfl) ?_
    refine BJ_y 8 rfl (by kernel_rfl) (by kernel_rfl) (by kernel_rfl) rfl rfl (YJ_fieldOwn rfl fld_37_2 rfl) ?_
    refine BJ_y 9 rfl (by kernel_rfl) (by kernel_rfl) (by kernel_rfl) rfl rfl (YJ_ixArr rfl rfl arrt_35 (by omega) (by omega) rfl) ?_
    refine BJ_l 10 3 rfl (by kernel_rfl) (by kernel_rfl) (by kernel_rfl) rfl (by kernel_rfl) m3 rfl rfl (YJ_load1 rfl tyi_4 (by repeat first | exact .head _ | apply List.Mem.tail) (fa_get (t := t) hk3)) ?_
    refine BJ_y 11 rfl (by kernel_rfl) (by kernel_rfl) (by kernel_rfl) rfl rfl (YJ_move rfl) ?_
    refine BJ_y 12 rfl (by kernel_rfl) (by kernel_rfl) (by kernel_rfl) rfl rfl (YJ_build1 (cs := [_, _, _, _]) lay_95 rfl rfl rfl) ?_
    refine BJ_buildSlice (vs := [_]) (cs := [_, _, _, _]) 13 rfl (by kernel_rfl) rfl rfl elt_90 zer_95 (by decide) (by decide) rfl rfl rfl rfl rfl (fun b => (And.intro (.inr (by repeat first | exact .head _ | apply List.Mem.tail)) (And.intro (.inr m2) (And.intro (.inr m3) (And.intro (.inr m4) (And.intro (.inr m5) (trivial))))))) ?_
    intro b3
    refine BJ_append 14 2 rfl (by kernel_rfl) rfl rfl elt_90 zer_95 rfl rfl rfl rfl (Rd_own (by repeat first | exact .head _ | apply List.Mem.tail)) rfl rfl (by omega) (by omega) (by decide) (emit_T (.inl h39) (by simp [h39]) (edL tris pre)) (fun _ _ => (And.intro (.inr (by repeat first | exact .head _ | apply List.Mem.tail)) (And.intro (.inl rfl) (And.intro (.inr m3) (And.intro (.inr m4) (And.intro (.inr m5) (trivial))))))) ?_
    intro A58 c58
    show BJ _ _ _ _ _ _ _ _ (_ :: _ :: _ :: _ :: _ :: _ :: _) _
    refine BJ_store (cs' := #[_]) (μ' := [_, _, _, _, _, _]) 15 1 rfl (by kernel_rfl) rfl rfl rfl rfl tyi_90 rfl (Nat.le_of_ble_eq_true rfl) rfl rfl rfl (And.intro (.inl rfl) (And.intro (.inl rfl) (And.intro (.inr m3) (And.intro (.inr m4) (And.intro (.inr m5) (trivial)))))) ?_
    refine BJ_done (by kernel_rfl) ?_
    refine QJ_in_normal ?_
    refine QJ_thenR (by repeat with_reducible first | exact no_round | exact no_begin | apply no_then | apply no_block) ?_
    refine RJ_reg (by kernel_rfl) ?_
    refine LJ_y rfl rfl (YJ_bin rfl rfl (iop_add (by omega))) ?_
    refine LJ_y rfl rfl (YJ_move rfl) ?_
    refine LJ_nil ?_
    refine QJ_roundF (F := fun (i : Nat × Option Addr × Nat × Nat) => ⟨[(1, .pointer (some ⟨b, 0, none⟩)), (3, .pointer (some ⟨b1, 0, none⟩)), (5, .pointer (some ⟨b2, 0, none⟩)), (16, .int .i64 (i.1 : Nat))], [cellsR b1 #[.slice i.2.1 i.2.2.2 i.2.2.1] 90, rowR 95 4 i.2.1 i.2.2.2 i.2.2.1 (edCells (edL tris pre ++ emK tris t i.1))], []⟩) (I := fun (i : Nat × Option Addr × Nat × Nat) => i.1 ≤ 3 ∧ i.2.2.2 = (edL tris pre ++ emK tris t i.1).length) (m := fun (i : Nat × Option Addr × Nat × Nat) => 3 - i.1) (i := (k, A1, c1, m1)) ((k + 1, A58, c58, m1 + 1)) (μd := [_]) ⟨by omega, by dsimp only; rw [List.length_append, emit_Tl (.inl h39), hm1, List.length_append]; omega⟩ (by dsimp only; omega) (And.intro rfl (And.intro rfl (And.intro rfl (And.intro rfl (trivial))))) (permI [1, 1, 1, 1, 1] rfl) (fun _ h => nomatch h) (fun _ h => h)
   ·simp only [decide_eq_true_eq, Bool.not_eq_false'] at h39
    refine LJ_y rfl rfl (YJ_move rfl) ?_
    refine LJ_y rfl rfl (YJ_move rfl) ?_
    refine LJ_y rfl rfl (YJ_bin rfl rfl rfl) ?_
    refine LJ_y rfl rfl (YJ_pickF rfl rfl) ?_
    refine LJ_nil ?_
    refine QJ_thenR (by repeat with_reducible first | exact no_round | exact no_begin | apply no_then | apply no_block) ?_
    refine RJ_cond rfl (fun h43 => ?_) (fun h43 => ?_)
    ·simp only [decide_eq_true_eq] at h43
     refine RJ_regM mix (by kernel_rfl) (fun _ _ _ _ _ h => h) (by kernel_rfl) [[15], [14, 15], [], [], []] ?_
     refine BJ_l 0 0 rfl (by kernel_rfl) (by kernel_rfl) (by kernel_rfl) rfl (by kernel_rfl) (by repeat first | exact .head _ | apply List.Mem.tail) rfl rfl (YJ_loadL rfl tyi_90 (by repeat first | exact .head _ | apply List.Mem.tail) rfl) ?_
     refine BJ_y 1 rfl (by kernel_rfl) (by kernel_rfl) (by kernel_rfl) rfl rfl (YJ_move rfl) ?_
     refine BJ_y 2 rfl (by kernel_rfl) (by kernel_rfl) (by kernel_rfl) rfl rfl (YJ_move rfl) ?_
     refine BJ_y 3 rfl (by kernel_rfl) (by kernel_rfl) (by kernel_rfl) rfl rfl (YJ_min2 rfl rfl) ?_
     refine BJ_y 4 rfl (by kernel_rfl) (by kernel_rfl) (by kernel_rfl) rfl rfl (YJ_move rfl) ?_
     refine BJ_y 5 rfl (by kernel_rfl) (by kernel_rfl) (by kernel_rfl) rfl rfl (YJ_move rfl) ?_
     refine BJ_y 6 rfl (by kernel_rfl) (by kernel_rfl) (by kernel_rfl) rfl rfl (YJ_max2 rfl rfl) ?_
     refine BJ_y 7 rfl (by kernel_rfl) (by kernel_rfl) (by kernel_rfl) rfl rfl (YJ_move rfl) ?_
     refine BJ_y 8 rfl (by kernel_rfl) (by kernel_rfl) (by kernel_rfl) rfl rfl (YJ_fieldOwn rfl fld_37_2 rfl) ?_
     refine BJ_y 9 rfl (by kernel_rfl) (by kernel_rfl) (by kernel_rfl) rfl rfl (YJ_ixArr rfl rfl arrt_35 (by omega) (by omega) rfl) ?_
     refine BJ_l 10 3 rfl (by kernel_rfl) (by kernel_rfl) (by kernel_rfl) rfl (by kernel_rfl) m3 rfl rfl (YJ_load1 rfl tyi_4 (by repeat first | exact .head _ | apply List.Mem.tail) (fa_get (t := t) hk3)) ?_
     refine BJ_y 11 rfl (by kernel_rfl) (by kernel_rfl) (by kernel_rfl) rfl rfl (YJ_move rfl) ?_
     refine BJ_y 12 rfl (by kernel_rfl) (by kernel_rfl) (by kernel_rfl) rfl rfl (YJ_build1 (cs := [_, _, _, _]) lay_95 rfl rfl rfl) ?_
     refine BJ_buildSlice (vs := [_]) (cs := [_, _, _, _]) 13 rfl (by kernel_rfl) rfl rfl elt_90 zer_95 (by decide) (by decide) rfl rfl rfl rfl rfl (fun b => (And.intro (.inr (by repeat first | exact .head _ | apply List.Mem.tail)) (And.intro (.inr m2) (And.intro (.inr m3) (And.intro (.inr m4) (And.intro (.inr m5) (trivial))))))) ?_
     intro b4
     refine BJ_append 14 2 rfl (by kernel_rfl) rfl rfl elt_90 zer_95 rfl rfl rfl rfl (Rd_own (by repeat first | exact .head _ | apply List.Mem.tail)) rfl rfl (by omega) (by omega) (by decide) (emit_T (.inr h43) (by simp [h39]) (edL tris pre)) (fun _ _ => (And.intro (.inr (by repeat first | exact .head _ | apply List.Mem.tail)) (And.intro (.inl rfl) (And.intro (.inr m3) (And.intro (.inr m4) (And.intro (.inr m5) (trivial))))))) ?_
     intro A58 c58
     show BJ _ _ _ _ _ _ _ _ (_ :: _ :: _ :: _ :: _ :: _ :: _) _
     refine BJ_store (cs' := #[_]) (μ' := [_, _, _, _, _, _]) 15 1 rfl (by kernel_rfl) rfl rfl rfl rfl tyi_90 rfl (Nat.le_of_ble_eq_true rfl) rfl rfl rfl (And.intro (.inl rfl) (And.intro (.inl rfl) (And.intro (.inr m3) (And.intro (.inr m4) (And.intro (.inr m5) (trivial)))))) ?_
     refine BJ_done (by kernel_rfl) ?_
     refine QJ_in_normal ?_
     refine QJ_thenR (by repeat with_reducible first | exact no_round | exact no_begin | apply no_then | apply no_block) ?_
     refine RJ_reg (by kernel_rfl) ?_
     refine LJ_y rfl rfl (YJ_bin rfl rfl (iop_add (by omega))) ?_
     refine LJ_y rfl rfl (YJ_move rfl) ?_
     refine LJ_nil ?_
     refine QJ_roundF (F := fun (i : Nat × Option Addr × Nat × Nat) => ⟨[(1, .pointer (some ⟨b, 0, none⟩)), (3, .pointer (some ⟨b1, 0, none⟩)), (5, .pointer (some ⟨b2, 0, none⟩)), (16, .int .i64 (i.1 : Nat))], [cellsR b1 #[.slice i.2.1 i.2.2.2 i.2.2.1] 90, rowR 95 4 i.2.1 i.2.2.2 i.2.2.1 (edCells (edL tris pre ++ emK tris t i.1))], []⟩) (I := fun (i : Nat × Option Addr × Nat × Nat) => i.1 ≤ 3 ∧ i.2.2.2 = (edL tris pre ++ emK tris t i.1).length) (m := fun (i : Nat × Option Addr × Nat × Nat) => 3 - i.1) (i := (k, A1, c1, m1)) ((k + 1, A58, c58, m1 + 1)) (μd := [_]) ⟨by omega, by dsimp only; rw [List.length_append, emit_Tl (.inr h43), hm1, List.length_append]; omega⟩ (by dsimp only; omega) (And.intro rfl (And.intro rfl (And.intro rfl (And.intro rfl (trivial))))) (permI [1, 1, 1, 1, 1] rfl) (fun _ h => nomatch h) (fun _ h => h)
    ·simp only [decide_eq_false_iff_not] at h43
     have hnf : ¬ (¬ isReal tris (t.n k) ∨ t.v ((k + 1) % 3) < t.v ((k + 2) % 3)) := by
      rintro (q | q)
      ·simp [q] at h39
      ·omega
     rw [← emit_F hnf]
     refine RJ_skip ?_
     refine QJ_in_normal ?_
     refine QJ_thenR (by repeat with_reducible first | exact no_round | exact no_begin | apply no_then | apply no_block) ?_
     refine RJ_reg (by kernel_rfl) ?_
     refine LJ_y rfl rfl (YJ_bin rfl rfl (iop_add (by omega))) ?_
     refine LJ_y rfl rfl (YJ_move rfl) ?_
     refine LJ_nil ?_
     refine QJ_roundF (F := fun (i : Nat × Option Addr × Nat × Nat) => ⟨[(1, .pointer (some ⟨b, 0, none⟩)), (3, .pointer (some ⟨b1, 0, none⟩)), (5, .pointer (some ⟨b2, 0, none⟩)), (16, .int .i64 (i.1 : Nat))], [cellsR b1 #[.slice i.2.1 i.2.2.2 i.2.2.1] 90, rowR 95 4 i.2.1 i.2.2.2 i.2.2.1 (edCells (edL tris pre ++ emK tris t i.1))], []⟩) (I := fun (i : Nat × Option Addr × Nat × Nat) => i.1 ≤ 3 ∧ i.2.2.2 = (edL tris pre ++ emK tris t i.1).length) (m := fun (i : Nat × Option Addr × Nat × Nat) => 3 - i.1) (i := (k, A1, c1, m1)) ((k + 1, A1, c1, m1)) (μd := []) ⟨by omega, by dsimp only; rw [emit_F hnf]; exact hm1⟩ (by dsimp only; omega) (And.intro rfl (And.intro rfl (And.intro rfl (And.intro rfl (trivial))))) (permI [] rfl) (fun _ h => nomatch h) (fun _ h => h)
  ·simp only [decide_eq_false_iff_not] at h17
   have hk3 : k = 3 := by omega
   subst hk3
   rw [← edL_snoc tris pre q t]
   refine RJ_exit ?_
   refine QJ_then_exit ?_
   refine QJ_then_exit ?_
   refine QJ_in_exit ?_
   refine QJ_in_normal ?_
   refine QJ_again (μ1 := [_, _, _]) (μ2 := [_]) (φ1 := []) (permI [2, 3] rfl) (fun _ h => nomatch h) ?_
   exact .inl ⟨rfl, (A1, c1, m1), (by dsimp only; rw [edL_snoc]; exact hm1), rfl, rfl⟩
 ·intro D0 iR hI
  obtain ⟨A9, c9, m9⟩ := iR
  dsimp only at hI
  subst hI
  show QJ _ _ _ _ (defR D0 :: cellsR b1 #[.slice A9 (edL tris (reals tris)).length c9] 90 :: rowR 95 4 A9 (edL tris (reals tris)).length c9 (edCells (edL tris (reals tris))) :: _) _
  refine QJ_in_normal ?_
  refine QJ_then ?_
  refine CJ_seq ?_
  refine CJ_reg ?_
  refine LJ_y rfl rfl (YJ_loadL rfl tyi_90 m1 rfl) ?_
  refine LJ_callP (μ1 := [_]) (μr := [_, _, _]) (permI [2] rfl) rfl rfl rfl rfl rfl (hS A9 c9 _ h09 (by omega) hok) (fun _ h => nomatch h) ?_
  rintro l9 ⟨hpm9, hso9⟩
  obtain rfl : xs = l9 := (hxs l9 hpm9 hso9).symm
  have hxl := hpm9.length_eq
  show LJ _ _ _ _ _ (_ :: _ :: _ :: _ :: _) _
  refine LJ_nil ?_
  refine QJ_then ?_
  refine CJ_seq ?_
  refine CJ_freezeRowK (n' := (edL tris (reals tris)).length) (xs' := edCells xs) 0 rfl rfl rfl ?_
  show CJ _ _ _ _ (_ :: _ :: _ :: _) _
  refine CJ_reg ?_
  refine LJ_y rfl rfl (YJ_loadL rfl tyi_90 m1 rfl) ?_
  refine LJ_y rfl rfl (YJ_len rfl ulen_90 rfl) ?_
  refine LJ_y rfl rfl (YJ_move rfl) ?_
  refine LJ_nil ?_
  refine QJ_then ?_
  refine CJ_block ?_
  refine CJ_loopF (F := fun (i : Nat × List Res × List Res) => ⟨[(0, .func (.yield l) #[] #[]), (62, .slice A9 (edL tris (reals tris)).length c9), (63, .int .i64 (edL tris (reals tris)).length), (64, .int .i64 (i.1 : Nat))], [bigR i.2.1], i.2.2⟩) (I := fun (i : Nat × List Res × List Res) => i.1 ≤ xs.length ∧ J (xs.take i.1) i.2.1 i.2.2) (m := fun (i : Nat × List Res × List Res) => xs.length - i.1) (0, μ, φ) (μr := [_, _]) ⟨Nat.zero_le _, hJ⟩ (And.intro rfl (And.intro rfl (And.intro rfl (And.intro rfl (trivial))))) (permI [2] rfl) (fun r h => ed_sub0 r h) ?_
  rintro ⟨k, μ1, φ1⟩ ⟨hk, hJ⟩
  try dsimp only at hk
  try dsimp only at hJ
  show CJ _ _ _ [(0, .func (.yield l) #[] #[]), (62, .slice A9 (edL tris (reals tris)).length c9), (63, .int .i64 (edL tris (reals tris)).length), (64, .int .i64 (k : Nat))] (bigR μ1 :: _ :: _ :: _) (φ1 ++ _)
  refine CJ_seq ?_
  refine CJ_reg ?_
  refine LJ_y rfl rfl (YJ_bin rfl rfl rfl) ?_
  refine LJ_nil ?_
  refine QJ_then ?_
  refine CJ_seq ?_
  refine CJ_cond rfl (fun h65 => ?_) (fun h65 => ?_)
  ·simp only [decide_eq_true_eq] at h65
   obtain ⟨e9, he9⟩ : ∃ e, xs[k]? = some e := ⟨_, List.getElem?_eq_getElem (by omega)⟩
   have hstep : xs.take (k + 1) = xs.take k ++ [e9] := by rw [List.take_add_one, he9]; rfl
   refine CJ_skip ?_
   refine QJ_then ?_
   refine CJ_seq ?_
   refine CJ_block ?_
   refine CJ_seq ?_
   refine CJ_reg ?_
   refine LJ_y rfl rfl (YJ_ixFact (n' := (edL tris (reals tris)).length) rfl rfl elt_90 (List.mem_append_right _ (.head _)) (by decide) (by omega) (by omega) (by omega)) ?_
   refine LJ_y rfl rfl (YJ_loadFactN (vs := [.int .i64 e9.1, .int .i64 e9.2.1, .bool e9.2.2.1, .bool e9.2.2.2]) (xs := edCells xs) rfl tyi_95 (List.mem_append_right _ (.head _)) (ed_row (i := ((k : Nat) : Int).toNat) (by simpa using he9)) rfl) ?_
   refine LJ_alloc (cs := #[_, _, _, _]) rfl rfl zer_95 rfl ?_
   intro b5
   refine LJ_store (cs' := #[_, _, _, _]) (μ' := [_, _, _, _]) 0 rfl rfl rfl rfl tyi_95 rfl (Nat.le_of_ble_eq_true rfl) rfl rfl rfl ?_
   refine LJ_nil ?_
   refine QJ_then ?_
   refine CJ_seq ?_
   refine CJ_regY ?_
   refine LY_y rfl rfl (YJ_move rfl) ?_
   refine LY_y rfl rfl (YJ_loadN (vs := [_, _, _, _]) rfl tyi_95 m0 rfl rfl) ?_
   refine LY_openBigK 1 rfl ?_
   refine LY_yield rfl rfl rfl rfl (hy _ e9 μ1 φ1 (by rw [← hstep]; exact List.take_prefix ..) hJ) (μr := [_, _, _]) (List.Perm.refl _) (fun r h => ed_sub r h) ?_
   intro v μ2 φ2 hpost
   obtain ⟨c, rfl, hc⟩ : ∃ c : Bool, v = .bool c ∧ ((c = true ∧ J (xs.take k ++ [e9]) μ2 φ2) ∨ (c = false ∧ Jx (xs.take k ++ [e9]) μ2 φ2)) := by
    rcases hpost with ⟨rfl, h⟩ | ⟨rfl, h⟩
    ·exact ⟨true, rfl, .inl ⟨rfl, h⟩⟩
    ·exact ⟨false, rfl, .inr ⟨rfl, h⟩⟩
   rw [← hstep] at hc
   refine LY_closeBig ?_
   show LY _ _ _ _ _ (_ :: _ :: _ :: _ :: []) _
   refine LY_boolC (fun h70 => ?_) (fun h70 => ?_)
   ·skip
    replace hc : J (xs.take (k + 1)) μ2 φ2 := by
     rcases hc with ⟨_, q⟩ | ⟨q, _⟩
     ·exact q
     ·rw [h70] at q; cases q
    refine LY_y rfl rfl (YJ_not rfl) ?_
    refine LY_nil ?_
    refine QJ_then ?_
    refine CJ_condF rfl ?_
    refine CJ_skip ?_
    refine QJ_in_normal ?_
    refine QJ_then ?_
    refine CJ_reg ?_
    refine LJ_y rfl rfl (YJ_bin rfl rfl (iop_add (by omega))) ?_
    refine LJ_y rfl rfl (YJ_move rfl) ?_
    refine LJ_nil ?_
    refine QJ_roundF (F := fun (i : Nat × List Res × List Res) => ⟨[(0, .func (.yield l) #[] #[]), (62, .slice A9 (edL tris (reals tris)).length c9), (63, .int .i64 (edL tris (reals tris)).length), (64, .int .i64 (i.1 : Nat))], [bigR i.2.1], i.2.2⟩) (I := fun (i : Nat × List Res × List Res) => i.1 ≤ xs.length ∧ J (xs.take i.1) i.2.1 i.2.2) (m := fun (i : Nat × List Res × List Res) => xs.length - i.1) (i := (k, μ1, φ1)) ((k + 1, μ2, φ2)) (μd := [_]) ⟨by dsimp only; omega, hc⟩ (by dsimp only; omega) (And.intro rfl (And.intro rfl (And.intro rfl (And.intro rfl (trivial))))) (permI [0, 1, 1] rfl) (fun r h => List.mem_append_left _ h) (fun r h => List.mem_append_right _ (List.mem_append_right _ h))
   ·skip
    replace hc : Jx (xs.take (k + 1)) μ2 φ2 := by
     rcases hc with ⟨q, _⟩ | ⟨_, q⟩
     ·rw [h70] at q; cases q
     ·exact q
    refine LY_y rfl rfl (YJ_not rfl) ?_
    refine LY_nil ?_
    refine QJ_then ?_
    refine CJ_condT rfl ?_
    refine CJ_ret ?_
    refine QJ_in_ret ?_
    refine QJ_then_ret ?_
    refine QJ_then_ret ?_
    refine QJ_in_ret ?_
    exact QJ_finB (.inl rfl) [D0] rfl (μ' := μ2) (μr := [_, _]) (φ' := φ2) (res_none rfl) (permI [0, 1] rfl) (fun r h => List.mem_append_left _ h) (.inr ⟨_, List.take_prefix .., hc⟩)
  ·simp only [decide_eq_false_iff_not] at h65
   refine CJ_exit ?_
   refine QJ_then_exit ?_
   refine QJ_then_exit ?_
   refine QJ_in_exit ?_
   exact QJ_finB (.inr rfl) [D0] rfl (μ' := μ1) (μr := [_]) (φ' := φ1) (res_none rfl) (permI [0] rfl) (fun r h => List.mem_append_left _ h) (.inl (by rw [List.take_of_length_le (by omega)] at hJ; exact hJ))
 ·exact fun _ _ _ _ _ h => h.elim
theorem edges_it {b B : Nat} {h : Mh} {pts : List (Int × Int)} {tris : List Tr} {xs : List Ed} (hlen : tris.length ≤ 10000) (h09 : 0 < (edL tris (reals tris)).length) (hok : ∀ e, e ∈ edL tris (reals tris) → e.ok)
  (hxs : ∀ l' : List Ed, l'.Perm (edL tris (reals tris)) → l'.Pairwise (fun x y => ¬ edLt y x) → l' = xs) : ITri Try.prog 73 [.pointer (some ⟨b, 0, none⟩)] encE xs (allFs b B h pts tris) :=
 ⟨by kernel_rfl, fun _ _ _ _ hy _ _ hJ => edges1_c hlen h09 hok hxs sort_c hy hJ⟩
end Go.Proofs.Ytbanlhlggkdanaa
namespace Go.Proofs.Ytbanlhlggkdanaa
open Go.RowKit
end Go.Proofs.Ytbanlhlggkdanaa
namespace Go.Proofs.Ytbanlhlggkdanaa
open Go.RowKit
def emV (TE : List (Int × Int)) (v : T3) : List (Int × Int × Bool) := [0, 1, 2].flatMap fun k => if ¬ rev2 (kv v k) ∈ TE ∨ (kv v k).1 < (kv v k).2 then [(min (kv v k).1 (kv v k).2, max (kv v k).1 (kv v k).2, !decide (rev2 (kv v k) ∈ TE))] else []
def key3 (e : Ed) : Int × Int × Bool := (e.1, e.2.1, e.2.2.2)
theorem emV_congr {TE TE' : List (Int × Int)} (h : ∀ e, e ∈ TE ↔ e ∈ TE') (v : T3) : emV TE v = emV TE' v := by
 unfold emV
 simp only [h]
section
variable {F : MapI} {tris : List Tr} {V : List (Nat × T3)} {n : Nat}
theorem mem_edsk {v : T3} {e : Int × Int} : e ∈ eds v ↔ ∃ k, k < 3 ∧ kv v k = e := by
 constructor
 ·intro h
  simp only [eds, List.mem_cons, List.not_mem_nil, or_false] at h
  rcases h with q | q | q
  ·exact ⟨0, by decide, q.symm⟩
  ·exact ⟨1, by decide, q.symm⟩
  ·exact ⟨2, by decide, q.symm⟩
 ·rintro ⟨k, hk, rfl⟩
  match k, hk with
  | 0, _ => exact .head _
  | 1, _ => exact .tail _ (.head _)
  | 2, _ => exact .tail _ (.tail _ (.head _))
theorem LM.real_nb (h : LM F tris V) (hT : TG n (V.map (·.2))) {x : Nat × T3} (hx : x ∈ V) {t : Tr} (ht : tris[x.1]? = some t) {k : Nat} (hk : k < 3) : isReal tris (t.n k) ↔ rev2 (kv x.2 k) ∈ ((V.map (·.2)).filter (fun v => decide (rv v))).flatMap eds := by
 obtain ⟨y, hy, j, hj, he2, hn, _⟩ := h.across hT hx ht hk
 rw [hn, h.real_at hy, List.mem_flatMap]
 constructor
 ·intro hr
  exact ⟨y.2, List.mem_filter.2 ⟨List.mem_map.2 ⟨y, hy, rfl⟩, by simpa using hr⟩, mem_edsk.2 ⟨j, hj, he2⟩⟩
 ·rintro ⟨w, hw, hwe⟩
  rw [List.mem_filter] at hw
  obtain ⟨hw1, hw2⟩ := hw
  obtain ⟨z, hz, rfl⟩ := List.mem_map.1 hw1
  obtain ⟨m, hm, hzm⟩ := mem_edsk.1 hwe
  have hyz := (h.un y hy j hj z hz m hm (he2.trans hzm.symm)).1
  rw [hyz]
  simpa using hw2
theorem t_kv (t : Tr) (k : Nat) : kv (t.v0, t.v1, t.v2) k = (t.v ((k + 1) % 3), t.v ((k + 2) % 3)) := rfl
theorem LM.em3 (h : LM F tris V) (hT : TG n (V.map (·.2))) {q : Nat} {t : Tr} (hx : (q, (t.v0, t.v1, t.v2)) ∈ V) (ht : tris[q]? = some t) : (emK tris t 3).map key3 = emV (((V.map (·.2)).filter (fun v => decide (rv v))).flatMap eds) (t.v0, t.v1, t.v2) := by
 have key : ∀ k, k < 3 → (emit tris t k).map key3 = if ¬ rev2 (kv (t.v0, t.v1, t.v2) k) ∈ ((V.map (·.2)).filter (fun v => decide (rv v))).flatMap eds ∨ (kv (t.v0, t.v1, t.v2) k).1 < (kv (t.v0, t.v1, t.v2) k).2 then [(min (kv (t.v0, t.v1, t.v2) k).1 (kv (t.v0, t.v1, t.v2) k).2, max (kv (t.v0, t.v1, t.v2) k).1 (kv (t.v0, t.v1, t.v2) k).2, !decide (rev2 (kv (t.v0, t.v1, t.v2) k) ∈ ((V.map (·.2)).filter (fun v => decide (rv v))).flatMap eds))] else [] := by
  intro k hk
  have hr := h.real_nb hT hx ht hk
  dsimp only at hr
  unfold emit
  rw [t_kv] at *
  simp only [hr]
  split <;> simp [key3]
 unfold emK emV
 rw [show List.range 3 = [0, 1, 2] from rfl]
 simp only [List.flatMap_cons, List.flatMap_nil, List.map_append, List.append_nil]
 rw [key 0 (by decide), key 1 (by decide), key 2 (by decide)]
theorem LM.realV (h : LM F tris V) (hT : TG n (V.map (·.2))) : ((reals tris).map (fun x => ((x.2.v0, x.2.v1, x.2.v2) : T3))).Perm ((V.map (·.2)).filter (fun v => decide (rv v))) := by
 have e1 : ((reals tris).map (fun x => ((x.1, (x.2.v0, x.2.v1, x.2.v2)) : Nat × T3))).Perm (V.filter (fun x => decide (rv x.2))) := by
  rw [show reals tris = realsF 0 tris from rfl, realsF_lv]
  exact (h.perm hT).filter _
 have e2 := e1.map (·.2)
 rw [List.map_map] at e2
 rw [List.filter_map]
 exact e2
theorem LM.edP (h : LM F tris V) (hT : TG n (V.map (·.2))) : ((edL tris (reals tris)).map key3).Perm (((V.map (·.2)).filter (fun v => decide (rv v))).flatMap (emV (((V.map (·.2)).filter (fun v => decide (rv v))).flatMap eds))) := by
 have e : (edL tris (reals tris)).map key3 = ((reals tris).map (fun x => ((x.2.v0, x.2.v1, x.2.v2) : T3))).flatMap (emV (((V.map (·.2)).filter (fun v => decide (rv v))).flatMap eds)) := by
  unfold edL
  rw [List.map_flatMap, List.flatMap_map]
  have : ∀ l : List (Nat × Tr), (∀ x, x ∈ l → x ∈ reals tris) → l.flatMap (fun x => (emK tris x.2 3).map key3) = l.flatMap (fun x => emV (((V.map (·.2)).filter (fun v => decide (rv v))).flatMap eds) (x.2.v0, x.2.v1, x.2.v2)) := by
   intro l
   induction l with
   | nil => intro _; rfl
   | cons x l ih =>
    intro hl
    obtain ⟨q, t⟩ := x
    obtain ⟨g1, g2, _⟩ := h.mem_real.1 (hl _ (.head _))
    rw [List.flatMap_cons, List.flatMap_cons, ih (fun y hy => hl y (.tail _ hy)), h.em3 hT g2 g1]
  exact this _ (fun _ h => h)
 rw [e]
 exact (h.realV hT).flatMap_right _
end
def eB (W H : Nat) (f : Nat → Bool) : Bool :=
 let T := gTris W H f
 let E := T.flatMap (emV (T.flatMap eds))
 let l := hullV (openE T) (gPts W H).length
 decide ((gAll W H f).filter (fun v => decide (rv v)) = T) && (decide ((E.map fun e => (e.1, e.2.1)).Nodup) && (E.all (fun e => decide (0 ≤ e.1 ∧ e.1 < e.2.1 ∧ e.2.1 < 1024)) && (decide (E.length + 1 = (gPts W H).length + T.length) && (decide ((E.filter (·.2.2)).length = l.length) && (decide (l[0]? = some 0) &&
 (List.range l.length).all (fun i => decide ((l.getD i 0, l.getD ((i + 1) % l.length) 0) ∈ openE T)))))))
theorem eB_all : ∀ b0 b1 b2 b3 : Bool, eB 1 1 (bit4 b0 b1 b2 b3) = true ∧ eB 1 2 (bit4 b0 b1 b2 b3) = true ∧ eB 2 1 (bit4 b0 b1 b2 b3) = true ∧ eB 2 2 (bit4 b0 b1 b2 b3) = true := by decide +kernel
theorem eB_true {W H : Nat} {f : Nat → Bool} (hW : W = 1 ∨ W = 2) (hH : H = 1 ∨ H = 2) : eB W H f = true := by
 have := eB_all (f 0) (f 1) (f 2) (f 3)
 unfold eB gAll at this ⊢
 rw [gTris_nf hW hH]
 rcases hW with rfl | rfl <;> rcases hH with rfl | rfl
 ·exact this.1
 ·exact this.2.1
 ·exact this.2.2.1
 ·exact this.2.2.2
theorem at_nodup {α : Type} {l : List α} (hn : l.Nodup) {i j : Nat} {a : α} (h1 : l[i]? = some a) (h2 : l[j]? = some a) : i = j :=
 (List.getElem?_inj (List.getElem?_eq_some_iff.1 h1).1 hn).1 (h1.trans h2.symm)
instance (x y : Ed) : Decidable (edLt x y) := by unfold edLt; infer_instance
section
variable {F : MapI} {W H : Nat} {f : Nat → Bool} {M : MD} {V : List (Nat × T3)}
theorem GM.eall (h : GM F W H f M V) (hW : W = 1 ∨ W = 2) (hH : H = 1 ∨ H = 2) : ((edL M.tris (reals M.tris)).map (fun e => (e.1, e.2.1))).Nodup ∧ (∀ e, e ∈ edL M.tris (reals M.tris) → 0 ≤ e.1 ∧ e.1 < e.2.1 ∧ e.2.1 < 1024) ∧ (edL M.tris (reals M.tris)).length + 1 = M.pts.length + (reals M.tris).length ∧
  ((edL M.tris (reals M.tris)).filter (·.2.2.2)).length = (hullV (openE (gTris W H f)) (gPts W H).length).length ∧ (reals M.tris).length = (gTris W H f).length ∧ (hullV (openE (gTris W H f)) (gPts W H).length)[0]? = some 0 ∧
  ∀ i, i < (hullV (openE (gTris W H f)) (gPts W H).length).length → ((hullV (openE (gTris W H f)) (gPts W H).length).getD i 0, (hullV (openE (gTris W H f)) (gPts W H).length).getD ((i + 1) % (hullV (openE (gTris W H f)) (gPts W H).length).length) 0) ∈ openE (gTris W H f) := by
 have hb := eB_true (f := f) hW hH
 unfold eB at hb
 simp only [Bool.and_eq_true, decide_eq_true_eq, List.all_eq_true, List.mem_range] at hb
 obtain ⟨b1, b2, b3, b4, b5, b6, b7⟩ := hb
 have hT : ((V.map (·.2)).filter (fun v => decide (rv v))).Perm (gTris W H f) := by
  have := h.pm.filter (fun v => decide (rv v))
  rw [b1] at this
  exact this
 have hp := h.lm.edP h.tg
 have hq : ((edL M.tris (reals M.tris)).map key3).Perm ((gTris W H f).flatMap (emV ((gTris W H f).flatMap eds))) := by
  refine hp.trans ?_
  have e : emV (((V.map (·.2)).filter (fun v => decide (rv v))).flatMap eds) = emV ((gTris W H f).flatMap eds) := funext fun v => emV_congr (fun e => (hT.flatMap_right eds).mem_iff) v
  rw [e]
  exact hT.flatMap_right _
 have hrl : (reals M.tris).length = (gTris W H f).length := by
  have := ((h.lm.realV h.tg).trans hT).length_eq
  rw [List.length_map] at this
  exact this
 refine ⟨?_, fun e he => ?_, ?_, ?_, hrl, b6, b7⟩
 ·have e := hq.map (fun x => (x.1, x.2.1))
  rw [List.map_map] at e
  exact e.nodup_iff.2 b2
 ·exact b3 _ (hq.mem_iff.1 (List.mem_map.2 ⟨e, he, rfl⟩))
 ·have e := hq.length_eq
  rw [List.length_map] at e
  rw [hrl, h.pts, e]
  exact b4
 ·have e := (hq.filter (·.2.2)).length_eq
  rw [List.filter_map, List.length_map] at e
  exact (show _ = _ from e).trans b5
theorem GM.eok (h : GM F W H f M V) (hW : W = 1 ∨ W = 2) (hH : H = 1 ∨ H = 2) : ∀ e, e ∈ edL M.tris (reals M.tris) → e.ok := fun e he => by
 obtain ⟨q1, q2, q3⟩ := (h.eall hW hH).2.1 e he
 exact ⟨⟨q1, by omega⟩, by omega, q3⟩
theorem GM.edges (h : GM F W H f M V) (hW : W = 1 ∨ W = 2) (hH : H = 1 ∨ H = 2) : ∃ xs : List Ed, xs.Perm (edL M.tris (reals M.tris)) ∧ (∀ l' : List Ed, l'.Perm (edL M.tris (reals M.tris)) → l'.Pairwise (fun x y => ¬ edLt y x) → l' = xs) ∧ xs.Pairwise edLt := by
 obtain ⟨hn, hb, _⟩ := h.eall hW hH
 have hinj : ∀ x y, x ∈ edL M.tris (reals M.tris) → y ∈ edL M.tris (reals M.tris) → ¬ edLt x y → ¬ edLt y x → x = y := by
  intro x y hx hy h1 h2
  unfold edLt at h1 h2
  have e : (x.1, x.2.1) = (y.1, y.2.1) := Prod.ext (by dsimp only; omega) (by dsimp only; omega)
  obtain ⟨i, hi⟩ := List.mem_iff_getElem?.1 hx
  obtain ⟨j, hj⟩ := List.mem_iff_getElem?.1 hy
  have hij : i = j := at_nodup hn (a := (x.1, x.2.1)) (by rw [List.getElem?_map, hi]; rfl) (by rw [List.getElem?_map, hj, e]; rfl)
  subst hij
  rw [hi] at hj
  exact Option.some.inj hj
 have hpw : ((edL M.tris (reals M.tris)).mergeSort (fun x y => decide (¬ edLt y x))).Pairwise (fun x y => ¬ edLt y x) := by
  have := List.pairwise_mergeSort (le := fun x y : Ed => decide (¬ edLt y x)) (fun a b c h1 h2 => by
   rw [decide_eq_true_eq] at *
   unfold edLt at *
   omega) (fun a b => by
   rw [Bool.or_eq_true, decide_eq_true_eq, decide_eq_true_eq]
   unfold edLt
   omega) (edL M.tris (reals M.tris))
  exact this.imp (fun h => of_decide_eq_true h)
 refine ⟨(edL M.tris (reals M.tris)).mergeSort (fun x y => decide (¬ edLt y x)), List.mergeSort_perm _ _, fun l' hp hs => ?_, ?_⟩
 ·refine List.Perm.eq_of_pairwise (le := fun x y => ¬ edLt y x) (fun a b ha hb h1 h2 => hinj a b (hp.mem_iff.1 ha) ((List.mergeSort_perm _ _).mem_iff.1 hb) h2 h1) hs hpw (hp.trans (List.mergeSort_perm _ _).symm)
 ·have hnd : ((edL M.tris (reals M.tris)).mergeSort (fun x y => decide (¬ edLt y x))).Nodup := (List.mergeSort_perm _ _).nodup_iff.2 (nodup_of_map hn)
  refine (List.pairwise_iff_getElem.2 fun i j hi hj hij => ?_)
  have h1 := List.pairwise_iff_getElem.1 hpw i j hi hj hij
  by_cases h2 : edLt ((edL M.tris (reals M.tris)).mergeSort (fun x y => decide (¬ edLt y x)))[i] ((edL M.tris (reals M.tris)).mergeSort (fun x y => decide (¬ edLt y x)))[j]
  ·exact h2
  ·have e := hinj _ _ ((List.mergeSort_perm _ _).mem_iff.1 (List.getElem_mem hi)) ((List.mergeSort_perm _ _).mem_iff.1 (List.getElem_mem hj)) h2 h1
   exact absurd e (List.pairwise_iff_getElem.1 hnd i j hi hj hij)
theorem GM.e0 (h : GM F W H f M V) (hW : W = 1 ∨ W = 2) (hH : H = 1 ∨ H = 2) : 0 < (edL M.tris (reals M.tris)).length := by
 obtain ⟨_, _, e3, _, _, _, _⟩ := h.eall hW hH
 have : 4 ≤ M.pts.length := by
  rw [h.pts]
  rcases hW with rfl | rfl <;> rcases hH with rfl | rfl <;> decide
 omega
theorem hull_small {W H : Nat} (f : Nat → Bool) (hW : W = 1 ∨ W = 2) (hH : H = 1 ∨ H = 2) : (hullV (openE (gTris W H f)) (gPts W H).length).length ≤ 100 := by
 have h1 := openE_len (gTris W H f)
 have h2 : (gTris W H f).length ≤ 9 := by
  obtain ⟨a, b, c, rest, hr, hl, _⟩ := g_shape hW hH f
  rw [hr, List.length_cons]
  omega
 unfold hullV
 rw [List.length_map, List.length_range]
 omega
theorem GM.hlen5 (h : GM F W H f M V) {l : List Int} (hl : l = hullV (openE (gTris W H f)) (gPts W H).length) (hW : W = 1 ∨ W = 2) (hH : H = 1 ∨ H = 2) : l.length ≤ 100 := by
 rw [hl]
 exact hull_small f hW hH
theorem GM.fnd (h : GM F W H f M V) {y : Nat × T3} (hy : y ∈ V) {t : Tr} (ht : M.tris[y.1]? = some t) {j : Nat} (hj : j < 3) {a b : Int} (he : kv y.2 j = (a, b)) {r : Int × Int × Bool} (hf : FndOk M.tris M.ats a b r) : r = ((y.1 : Int), (j : Int), true) := by
 obtain ⟨u, hu, hv⟩ := h.lm.get hy
 rw [ht] at hu
 cases hu
 have hE : isE t j a b := by
  rw [← hv, t_kv] at he
  exact ⟨congrArg Prod.fst he, congrArg Prod.snd he⟩
 have hlo : ∀ k, k < 3 → -1 ≤ tv y.2 k := fun k hk => by
  rcases h.tg.ok y.2 (List.mem_map.2 ⟨y, hy, rfl⟩) k hk with q | q <;> omega
 have h1 : tv y.2 ((j + 1) % 3) = a := congrArg Prod.fst he
 have h2 : tv y.2 ((j + 2) % 3) = b := congrArg Prod.snd he
 have := h.find (h1 ▸ hlo _ (Nat.mod_lt _ (by decide))) (h2 ▸ hlo _ (Nat.mod_lt _ (by decide))) (s := ((y.1 : Int), (j : Int))) (.inr ⟨y.1, t, j, ht, hj, hE, rfl⟩) hf
 rw [this]
 simp
theorem GM.edge (h : GM F W H f M V) {e : Ed} (he : e ∈ edL M.tris (reals M.tris)) : ∃ y, y ∈ V ∧ ∃ j, j < 3 ∧ ∃ y', y' ∈ V ∧ ∃ j', j' < 3 ∧ ∃ t t', M.tris[y.1]? = some t ∧ M.tris[y'.1]? = some t' ∧ kv y.2 j = (e.1, e.2.1) ∧ kv y'.2 j' = (e.2.1, e.1) ∧ t.fl j = e.2.2.1 ∧ t'.fl j' = e.2.2.1 ∧ e.2.2.2 = (!decide (isReal M.tris (y.1 : Int)) || !decide (isReal M.tris (y'.1 : Int))) := by
 obtain ⟨⟨q, t⟩, hx, hk⟩ := List.mem_flatMap.1 he
 obtain ⟨ht, hV, hr⟩ := h.lm.mem_real.1 hx
 obtain ⟨k, hk3, hke⟩ := List.mem_flatMap.1 hk
 have hk3 : k < 3 := List.mem_range.1 hk3
 dsimp only at hke
 unfold emit at hke
 split at hke
 ·rename_i hor
  rw [List.mem_singleton] at hke
  obtain ⟨y, hy, j, hj, he2, hn, _, o, ho, hov, _, hof⟩ := h.lm.across h.tg hV ht hk3
  dsimp only at he2
  rw [t_kv] at he2
  have hq : isReal M.tris (q : Int) := (h.lm.real_at hV).2 hr
  rcases Int.le_total (t.v ((k + 1) % 3)) (t.v ((k + 2) % 3)) with hc | hc
  ·refine ⟨_, hV, k, hk3, y, hy, j, hj, t, o, ht, ho, ?_, ?_, ?_, ?_, ?_⟩
   ·rw [hke, t_kv, Int.min_eq_left hc, Int.max_eq_right hc]
   ·rw [hke, he2, Int.min_eq_left hc, Int.max_eq_right hc]
   ·rw [hke]
   ·rw [hke]; exact hof
   ·rw [hke, hn, decide_eq_true hq]; rfl
  ·refine ⟨y, hy, j, hj, _, hV, k, hk3, o, t, ho, ht, ?_, ?_, ?_, ?_, ?_⟩
   ·rw [hke, he2, Int.min_eq_right hc, Int.max_eq_left hc]
   ·rw [hke, t_kv, Int.min_eq_right hc, Int.max_eq_left hc]
   ·rw [hke]; exact hof
   ·rw [hke]
   ·rw [hke, hn, decide_eq_true hq]; simp
 ·cases hke
theorem GM.bord (h : GM F W H f M V) (hW : W = 1 ∨ W = 2) (hH : H = 1 ∨ H = 2) {a b : Int} (he : (a, b) ∈ openE (gTris W H f)) : ∃ y, y ∈ V ∧ ∃ j, j < 3 ∧ ∃ y', y' ∈ V ∧ ∃ j', j' < 3 ∧ ∃ t t', M.tris[y.1]? = some t ∧ M.tris[y'.1]? = some t' ∧ kv y.2 j = (a, b) ∧ kv y'.2 j' = (b, a) ∧ isReal M.tris (y.1 : Int) ∧ ¬ isReal M.tris (y'.1 : Int) := by
 have hb := eB_true (f := f) hW hH
 unfold eB at hb
 simp only [Bool.and_eq_true, decide_eq_true_eq] at hb
 obtain ⟨b1, _⟩ := hb
 have hT : ((V.map (·.2)).filter (fun v => decide (rv v))).Perm (gTris W H f) := by
  have := h.pm.filter (fun v => decide (rv v))
  rw [b1] at this
  exact this
 rw [mem_openE] at he
 obtain ⟨h1, h2⟩ := he
 rw [← (hT.flatMap_right eds).mem_iff] at h1 h2
 obtain ⟨w, hw, hwe⟩ := List.mem_flatMap.1 h1
 rw [List.mem_filter] at hw
 obtain ⟨hw1, hw2⟩ := hw
 obtain ⟨x, hx, rfl⟩ := List.mem_map.1 hw1
 obtain ⟨k, hk, hke⟩ := mem_edsk.1 hwe
 obtain ⟨t, ht, _⟩ := h.lm.get hx
 obtain ⟨y, hy, j, hj, he2, hn, _, o, ho, _, _, _⟩ := h.lm.across h.tg hx ht hk
 refine ⟨x, hx, k, hk, y, hy, j, hj, t, o, ht, ho, hke, by rw [he2, hke], (h.lm.real_at hx).2 (by simpa using hw2), fun hr => ?_⟩
 rw [← hn] at hr
 have := (h.lm.real_nb h.tg hx ht hk).1 hr
 rw [hke] at this
 exact h2 this
end
end Go.Proofs.Ytbanlhlggkdanaa
namespace Go.Proofs.Ytbanlhlggkdanaa
open Go.RowKit
theorem ent_13 : Enter Try.prog 13 = true := by kernel_rfl
theorem fld_95_0 : fld Try.prog 95 0 = some 0 := by kernel_rfl
theorem fld_95_1 : fld Try.prog 95 1 = some 1 := by kernel_rfl
theorem fld_95_2 : fld Try.prog 95 2 = some 2 := by kernel_rfl
theorem fld_95_3 : fld Try.prog 95 3 = some 3 := by kernel_rfl
theorem edCells_app (l : List Ed) (e : Ed) : edCells l ++ [.int .i64 e.1, .int .i64 e.2.1, .bool e.2.2.1, .bool e.2.2.2] = edCells (l ++ [e]) := by
 rw [edCells, edCells, List.flatMap_append]
 simp [Ed.cells]
theorem ed_get {l : List Ed} {i c : Nat} {e : Ed} {v : Value} (h : l[i]? = some e) (hc : c < 4) (hv : e.cells[c]? = some v) : (edCells l)[i * 4 + c]? = some v := by
 rw [edCells, flat_at Ed.cells (fun _ => rfl) l i c hc, h]
 exact hv
theorem fil_T {l : List Ed} {i : Nat} {e : Ed} (h : l[i]? = some e) (hp : e.2.2.2 = true) : ((l.take (i + 1)).filter (·.2.2.2)).length = ((l.take i).filter (·.2.2.2)).length + 1 := by
 rw [List.take_add_one, h, List.filter_append, List.length_append]
 simp [hp]
theorem fil_F {l : List Ed} {i : Nat} {e : Ed} (h : l[i]? = some e) (hp : e.2.2.2 = false) : ((l.take (i + 1)).filter (·.2.2.2)).length = ((l.take i).filter (·.2.2.2)).length := by
 rw [List.take_add_one, h, List.filter_append, List.length_append]
 simp [hp]
section
variable {F : MapI} {W H : Nat} {f : Nat → Bool} {M : MD} {V : List (Nat × T3)}
theorem GM.kvb (h : GM F W H f M V) {y : Nat × T3} (hy : y ∈ V) {j : Nat} {a b : Int} (he : kv y.2 j = (a, b)) : (-1 ≤ a ∧ a < M.pts.length) ∧ -1 ≤ b ∧ b < M.pts.length := by
 have h1 : tv y.2 ((j + 1) % 3) = a := congrArg Prod.fst he
 have h2 : tv y.2 ((j + 2) % 3) = b := congrArg Prod.snd he
 have o1 := h.tg.ok y.2 (List.mem_map.2 ⟨y, hy, rfl⟩) ((j + 1) % 3) (Nat.mod_lt _ (by decide))
 have o2 := h.tg.ok y.2 (List.mem_map.2 ⟨y, hy, rfl⟩) ((j + 2) % 3) (Nat.mod_lt _ (by decide))
 rw [h1] at o1
 rw [h2] at o2
 rw [h.pts]
 omega
end
set_option maxRecDepth 100000 in
set_option maxHeartbeats 32000000 in
theorem meshGrids_c {s1 s2 v fa : Int} (hv : 0 ≤ v ∧ v < 4294967296) (hf : 0 ≤ fa ∧ fa < 4294967296) : Tri Try.prog 13 [.agg #[.int .i64 s1, .int .i64 s2], .int .u32 v, .int .u32 fa] [] [] (Ret0 (.bool true)) := by
 refine Tri_ofM (N := 271) Try.func13 rfl ent_13 rfl rfl ?_
 intro w0 S0 T0
 show CJ _ _ _ [(0, _), (1, _), (2, _)] _ _
 refine CJ_seq ?_
 refine CJ_reg ?_
 refine LJ_box (cs := #[_, _]) rfl rfl rfl rfl ?_
 intro b1
 refine LJ_y rfl rfl (YJ_assign rfl) ?_
 refine LJ_nil ?_
 refine QJ_then ?_
 refine CJ_seq ?_
 refine CJ_seq ?_
 refine CJ_reg ?_
 refine LJ_call0 rfl rfl rfl rfl rfl fit9_c (fun _ h => nomatch h) ?_
 refine LJ_y rfl rfl (YJ_not rfl) ?_
 refine LJ_nil ?_
 refine QJ_then ?_
 refine CJ_condF rfl ?_
 refine CJ_skip ?_
 refine QJ_then ?_
 refine CJ_seq ?_
 refine CJ_reg ?_
 refine LJ_y rfl rfl (YJ_ixArr rfl rfl arrt_46 (by omega) (by omega) rfl) ?_
 refine LJ_y rfl rfl (YJ_loadL rfl tyi_3 m0 rfl) ?_
 refine LJ_y rfl rfl (YJ_ixArr rfl rfl arrt_46 (by omega) (by omega) rfl) ?_
 refine LJ_y rfl rfl (YJ_loadL rfl tyi_3 m0 rfl) ?_
 refine LJ_y rfl rfl (YJ_move rfl) ?_
 refine LJ_y rfl rfl (YJ_move rfl) ?_
 refine LJ_callP (μ1 := []) (μr := [_]) (permI [] rfl) rfl rfl rfl rfl rfl (grid_c (w := s1) (h := s2) (fa := fa) hv hf) (fun _ h => nomatch h) ?_
 rintro ⟨B9, F9, border, TA, cT⟩ ⟨hF9, hB9⟩
 dsimp only at hB9
 obtain ⟨V9, hG⟩ := grid_M (gW_or _) (gW_or _) hB9
 have hgp := (gPts_ok (gW_or (s1)) (gW_or (s2))).2
 have hgl := (gPts_ok (gW_or (s1)) (gW_or (s2))).1
 show LJ _ _ _ _ ((39, .tuple #[.pointer (some ⟨B9, 0, none⟩), .slice TA _ cT]) :: _) (meshR B9 (buildG F9 (gridR F9 (gW (s1)) (gW (s2)) (bitN v)) border).M :: _) _
 generalize (buildG F9 (gridR F9 (gW (s1)) (gW (s2)) (bitN v)) border).M = M9 at *
 rw [← hG.pts] at hgp hgl
 have hP : ∀ j, j < M9.pts.length → P2 (M9.pts.getD j (0, 0)).1 (M9.pts.getD j (0, 0)).2 := by
  intro j hj
  have := hgp (M9.pts.getD j (0, 0)) (by rw [List.getD_eq_getElem?_getD, List.getElem?_eq_getElem hj]; exact List.getElem_mem hj)
  exact ⟨⟨by omega, by omega⟩, ⟨by omega, by omega⟩⟩
 have hlen : M9.tris.length ≤ 1000000 := Nat.le_trans hG.len (by decide)
 have hal : M9.ats.length ≤ 1000000 := by
  rw [hG.ats, ← hG.pts]
  omega
 refine LJ_freezeMesh (fun hm hmF hmA => ?_)
 show LJ _ _ _ _ _ (_ :: _) _
 refine LJ_y rfl rfl (YJ_move rfl) ?_
 refine LJ_y rfl rfl (YJ_extract rfl rfl) ?_
 refine LJ_y rfl rfl (YJ_extract rfl rfl) ?_
 refine LJ_y rfl rfl (YJ_assign rfl) ?_
 refine LJ_y rfl rfl (YJ_assign rfl) ?_
 refine LJ_nil ?_
 refine QJ_then ?_
 refine CJ_seq ?_
 refine CJ_seq ?_
 refine CJ_reg ?_
 refine LJ_y rfl rfl (YJ_move rfl) ?_
 refine LJ_y rfl rfl (YJ_eqs rfl rfl (fun w => eqs_ptr ..)) ?_
 refine LJ_y rfl rfl (YJ_move rfl) ?_
 refine LJ_bool (c := false) rfl ?_
 refine LJ_y rfl rfl (YJ_move rfl) ?_
 refine LJ_call0 rfl rfl rfl rfl rfl (hG.sound (gW_or _) (gW_or _) hP hmA hal) (fun r h => frz_at r h) ?_
 refine LJ_y rfl rfl (YJ_not rfl) ?_
 refine LJ_y rfl rfl (YJ_pickF rfl rfl) ?_
 refine LJ_nil ?_
 refine QJ_then ?_
 refine CJ_condF rfl ?_
 refine CJ_skip ?_
 refine QJ_then ?_
 refine CJ_seq ?_
 refine CJ_reg ?_
 refine LJ_alloc (cs := #[_]) rfl rfl zer_3 rfl ?_
 intro b2
 refine LJ_store (cs' := #[_]) (μ' := [_, _]) 0 rfl rfl rfl rfl tyi_3 rfl (Nat.le_of_ble_eq_true rfl) rfl rfl rfl ?_
 refine LJ_nil ?_
 refine QJ_then ?_
 refine CJ_seq ?_
 refine CJ_seq ?_
 refine CJ_reg ?_
 refine LJ_y rfl rfl (YJ_move rfl) ?_
 refine LJ_callX rfl rfl rfl rfl rfl (all_c (B := B9)) (fun _ h => nomatch h) ?_
 intro bA _
 refine LJ_nil ?_
 refine QJ_then ?_
 refine CJ_block ?_
 refine CJ_rangeFunc (μr := [_]) rfl (all_it (h := hm) (pts := M9.pts) (tris := M9.tris) (by omega)) (all_sub (fun r h => frz_mesh r h)) (fun _ => rfl) (by kernel_rfl) (L := { ι := Unit, I := fun _ _ => True, F := fun pre _ => ([cellsR b2 #[.int .i64 (pre.length : Nat)] 3], []), κ := Unit, Ix := fun _ _ _ => False, Fx := fun _ _ => ([], []) }) () trivial (permI [] rfl) (fun _ h => nomatch h) ?_ ?_ ?_
 ·intro lR DR fnR tmpsR WR SR TR pre xR iR hpre hI
  obtain ⟨q, t⟩ := xR
  have hpl := hpre.length_le
  have hrl := reals_len M9.tris 0
  have hrl : (reals M9.tris).length ≤ M9.tris.length := hrl
  rw [List.length_append] at hpl
  show RJ _ _ _ _ _ ((52, _) :: (51, _) :: _) (objR lR _ :: defR DR :: cellsR b2 #[.int .i64 (pre.length : Nat)] 3 :: []) _
  refine RJ_skip ?_
  refine QJ_begin (μr := [_, _]) (permI [] rfl) ?_
  refine RJ_block ?_
  refine RJ_reg (by kernel_rfl) ?_
  refine LJ_y rfl rfl (YJ_loadL rfl tyi_3 m2 rfl) ?_
  refine LJ_y rfl rfl (YJ_bin rfl rfl (iop_add (by omega))) ?_
  refine LJ_val (v := .int .i64 ((pre ++ [(q, t)]).length : Nat)) (congrArg (Value.int .i64) (by rw [List.length_append]; rfl)) ?_
  refine LJ_store (cs' := #[_]) (μ' := [_, _, _]) 2 rfl rfl rfl rfl tyi_3 rfl (Nat.le_of_ble_eq_true rfl) rfl rfl rfl ?_
  refine LJ_nil ?_
  refine QJ_in_normal ?_
  refine QJ_again (μ1 := [_, _]) (μ2 := []) (φ1 := []) (permI [] rfl) (fun _ h => nomatch h) ?_
  exact .inl ⟨rfl, (), trivial, rfl, rfl⟩
 ·intro D0 iR hI
  have hrl := reals_len M9.tris 0
  have hrl : (reals M9.tris).length ≤ M9.tris.length := hrl
  show QJ _ _ _ _ (defR D0 :: cellsR b2 #[.int .i64 ((reals M9.tris).length : Nat)] 3 :: _) _
  refine QJ_in_normal ?_
  refine QJ_then ?_
  refine CJ_seq ?_
  refine CJ_reg ?_
  refine LJ_alloc (cs := #[_]) rfl rfl zer_90 rfl ?_
  intro b3
  refine LJ_nil ?_
  refine QJ_then ?_
  refine CJ_seq ?_
  refine CJ_seq ?_
  refine CJ_newRow 95 4 ?_
  refine CJ_reg ?_
  refine LJ_y rfl rfl (YJ_move rfl) ?_
  refine LJ_callX rfl rfl rfl rfl rfl (edges_c (B := B9)) (fun _ h => nomatch h) ?_
  intro bE _
  refine LJ_nil ?_
  refine QJ_then ?_
  refine CJ_block ?_
  have hlen2 : M9.tris.length ≤ 100 := hG.len
  obtain ⟨xs, hxp, hxu, hxs⟩ := hG.edges (gW_or _) (gW_or _)
  have hxl := hxp.length_eq
  have hxm := edL_len M9.tris (reals M9.tris)
  refine CJ_rangeFunc (μr := [_, _, _]) rfl (edges_it (h := hm) (pts := M9.pts) (tris := M9.tris) (xs := xs) (by omega) (hG.e0 (gW_or _) (gW_or _)) (hG.eok (gW_or _) (gW_or _)) hxu) (all_sub (fun r h => .tail _ (frz_mesh r h))) (fun _ => rfl) (by kernel_rfl) (L := { ι := Option Addr × Nat × Nat, I := fun pre s => s.2.2 = pre.length, F := fun pre s => ([cellsR b3 #[.slice s.1 s.2.2 s.2.1] 90, rowR 95 4 s.1 s.2.2 s.2.1 (edCells (pre))], []), κ := Unit, Ix := fun _ _ _ => False, Fx := fun _ _ => ([], []) }) (none, 0, 0) rfl (permI [1] rfl) (fun _ h => nomatch h) ?_ ?_ ?_
  ·intro lR DR fnR tmpsR WR SR TR pre xR iR hpre hI
   obtain ⟨A0, c0, m0⟩ := iR
   dsimp only at hI
   have hpl := hpre.length_le
   rw [List.length_append] at hpl
   show RJ _ _ _ _ _ ((57, _) :: _) (objR lR _ :: defR DR :: cellsR b3 #[.slice A0 m0 c0] 90 :: rowR 95 4 A0 m0 c0 (edCells (pre)) :: []) _
   refine RJ_reg (by kernel_rfl) ?_
   refine LJ_alloc (cs := #[_, _, _, _]) rfl rfl zer_95 rfl ?_
   intro b4
   refine LJ_store (cs' := #[.int .i64 xR.1, .int .i64 xR.2.1, .bool xR.2.2.1, .bool xR.2.2.2]) (μ' := [_, _, _, _, _]) 0 rfl rfl rfl rfl tyi_95 rfl (Nat.le_of_ble_eq_true rfl) rfl rfl rfl ?_
   refine LJ_nil ?_
   refine QJ_begin (μr := [_, _, _, _]) (permI [1] rfl) ?_
   refine RJ_block ?_
   refine RJ_reg (by kernel_rfl) ?_
   refine LJ_y rfl rfl (YJ_loadL rfl tyi_90 m3 rfl) ?_
   refine LJ_y rfl rfl (YJ_loadN (vs := [_, _, _, _]) rfl tyi_95 m1 rfl rfl) ?_
   refine LJ_buildSliceN (vs := [_]) (cs := [_, _, _, _]) rfl rfl elt_90 zer_95 (by decide) (by decide) rfl rfl rfl rfl rfl ?_
   intro b5
   refine LJ_append 5 rfl rfl elt_90 zer_95 rfl rfl rfl rfl (Rd_own (by repeat first | exact .head _ | apply List.Mem.tail)) rfl rfl (by omega) (by omega) (by decide) (edCells_app pre xR) ?_
   intro A61 c61
   show LJ _ _ _ _ _ (_ :: _ :: _ :: _ :: _ :: _ :: _) _
   refine LJ_store (cs' := #[_]) (μ' := [_, _, _, _, _, _]) 4 rfl rfl rfl rfl tyi_90 rfl (Nat.le_of_ble_eq_true rfl) rfl rfl rfl ?_
   refine LJ_nil ?_
   refine QJ_in_normal ?_
   refine QJ_again (μ1 := [_, _, _]) (μ2 := [_, _]) (φ1 := []) (permI [1, 2, 2, 2] rfl) (fun _ h => nomatch h) ?_
   exact .inl ⟨rfl, (A61, c61, m0 + 1), (by dsimp only; rw [List.length_append, ← hI]; rfl), rfl, rfl⟩
  ·intro D1 iR hI
   obtain ⟨A9, c9, m9⟩ := iR
   dsimp only at hI
   subst hI
   show QJ _ _ _ _ (defR D1 :: cellsR b3 #[.slice A9 xs.length c9] 90 :: rowR 95 4 A9 xs.length c9 (edCells (xs)) :: _) _
   refine QJ_in_normal ?_
   refine QJ_then ?_
   refine CJ_seq ?_
   refine CJ_reg ?_
   refine LJ_y rfl rfl (YJ_move rfl) ?_
   refine LJ_callX rfl rfl rfl rfl rfl (hull_c (h := hm) (pts := M9.pts) (tris := M9.tris) hlen) (fun r h => .tail _ (.tail _ (frz_mesh r h))) ?_
   rintro ⟨A5, c5, l5⟩ h5
   dsimp only [List.nil_append] at h5 ⊢
   have h5 : l5 = _ := h5.trans (hG.hull (gW_or _) (gW_or _))
   obtain ⟨en, eb, el, ec, er9, e0, eh⟩ := hG.eall (gW_or _) (gW_or _)
   rw [← h5] at ec e0 eh
   have hl0 : 0 < l5.length := (List.getElem?_eq_some_iff.1 e0).1
   have hl5 := hG.hlen5 h5 (gW_or _) (gW_or _)
   refine LJ_y rfl rfl (YJ_assign rfl) ?_
   refine LJ_nil ?_
   refine QJ_then ?_
   refine CJ_seq ?_
   refine CJ_seq ?_
   refine CJ_freezeRowK (n' := xs.length) (xs' := edCells xs) 2 rfl rfl rfl ?_
   show CJ _ _ _ _ (_ :: _ :: _ :: _ :: _ :: _) _
   refine CJ_regD mix (by kernel_rfl) (fun _ _ _ _ _ h => h) _ _ (fun _ h => h) (fun _ h => h) ?_
   refine AJ_y 0 rfl (by kernel_rfl) (by kernel_rfl) rfl rfl (YJ_loadL rfl tyi_3 m3 rfl) ?_
   refine AJ_y 1 rfl (by kernel_rfl) (by kernel_rfl) rfl rfl (YJ_move rfl) ?_
   refine AJ_y 2 rfl (by kernel_rfl) (by kernel_rfl) rfl rfl (YJ_len rfl ulen_47 rfl) ?_
   refine AJ_y 3 rfl (by kernel_rfl) (by kernel_rfl) rfl rfl (YJ_bin rfl rfl rfl) ?_
   refine AJ_val (v := .bool false) (by rw [er9]; simp) ?_
   refine AJ_y 4 rfl (by kernel_rfl) (by kernel_rfl) rfl rfl (YJ_move rfl) ?_
   refine AJ_bool (c := false) rfl ?_
   refine AJ_y 5 rfl (by kernel_rfl) (by kernel_rfl) rfl rfl (YJ_move rfl) ?_
   refine AJ_y 6 rfl (by kernel_rfl) (by kernel_rfl) rfl rfl (YJ_nilCheck rfl) ?_
   refine AJ_y 7 rfl (by kernel_rfl) (by kernel_rfl) rfl rfl (YJ_fieldOwn rfl fld_57_0 rfl) ?_
   refine AJ_y 8 rfl (by kernel_rfl) (by kernel_rfl) rfl rfl (YJ_loadFactP (A := some ⟨B9, 0, none⟩) (j := 0) rfl rfl tyi_26 m4 rfl) ?_
   refine AJ_y 9 rfl (by kernel_rfl) (by kernel_rfl) rfl rfl (YJ_len rfl ulen_26 rfl) ?_
   refine AJ_y 10 rfl (by kernel_rfl) (by kernel_rfl) rfl rfl (YJ_loadL rfl tyi_90 m1 rfl) ?_
   refine AJ_y 11 rfl (by kernel_rfl) (by kernel_rfl) rfl rfl (YJ_len rfl ulen_90 rfl) ?_
   refine AJ_y 12 rfl (by kernel_rfl) (by kernel_rfl) rfl rfl (YJ_bin rfl rfl (iop_sub (by omega))) ?_
   refine AJ_y 13 rfl (by kernel_rfl) (by kernel_rfl) rfl rfl (YJ_loadL rfl tyi_3 m3 rfl) ?_
   refine AJ_y 14 rfl (by kernel_rfl) (by kernel_rfl) rfl rfl (YJ_bin rfl rfl (iop_add (by omega))) ?_
   refine AJ_y 15 rfl (by kernel_rfl) (by kernel_rfl) rfl rfl (YJ_bin rfl rfl rfl) ?_
   refine AJ_val (v := .bool false) (by rw [show (M9.pts.length : Int) - (xs.length : Nat) + ((reals M9.tris).length : Nat) = 1 by omega]; rfl) ?_
   refine AJ_y 16 rfl (by kernel_rfl) (by kernel_rfl) rfl rfl (YJ_pickF rfl rfl) ?_
   refine AJ_y 17 rfl (by kernel_rfl) (by kernel_rfl) rfl rfl (YJ_move rfl) ?_
   refine AJ_bool (c := false) rfl ?_
   refine AJ_y 18 rfl (by kernel_rfl) (by kernel_rfl) rfl rfl (YJ_move rfl) ?_
   refine AJ_y 19 rfl (by kernel_rfl) (by kernel_rfl) rfl rfl (YJ_ixFact (n' := l5.length) rfl rfl elt_55 m1 (by decide) (by omega) (by omega) (by omega)) ?_
   refine AJ_y 20 rfl (by kernel_rfl) (by kernel_rfl) rfl rfl (YJ_loadFactP (A := A5) (j := 0) rfl (congrArg _ (by omega)) tyi_3 m1 (Iv_at e0)) ?_
   refine AJ_y 21 rfl (by kernel_rfl) (by kernel_rfl) rfl rfl (YJ_bin rfl rfl rfl) ?_
   refine AJ_val (v := .bool false) (rfl) ?_
   refine AJ_y 22 rfl (by kernel_rfl) (by kernel_rfl) rfl rfl (YJ_pickF rfl rfl) ?_
   refine AJ_done (by kernel_rfl) ?_
   refine QJ_then ?_
   refine CJ_condF rfl ?_
   refine CJ_skip ?_
   refine QJ_then ?_
   refine CJ_seq ?_
   refine CJ_reg ?_
   refine LJ_y rfl rfl (YJ_assign rfl) ?_
   refine LJ_nil ?_
   refine QJ_then ?_
   refine CJ_seq ?_
   refine CJ_seq ?_
   refine CJ_reg ?_
   refine LJ_y rfl rfl (YJ_loadL rfl tyi_90 m1 rfl) ?_
   refine LJ_y rfl rfl (YJ_len rfl ulen_90 rfl) ?_
   refine LJ_y rfl rfl (YJ_move rfl) ?_
   refine LJ_nil ?_
   refine QJ_then ?_
   refine CJ_block ?_
   refine CJ_loopF (F := fun (i : Nat × Nat) => ⟨[(7, .pointer (some ⟨B9, 0, none⟩)), (10, .pointer (some ⟨b3, 0, none⟩)), (12, .slice A5 l5.length c5), (13, .int .i64 (i.2 : Nat)), (87, .slice A9 xs.length c9), (88, .int .i64 xs.length), (89, .int .i64 (i.1 : Nat))], [], []⟩) (I := fun (i : Nat × Nat) => i.1 ≤ xs.length ∧ i.2 = ((xs.take i.1).filter (·.2.2.2)).length) (m := fun (i : Nat × Nat) => xs.length - i.1) (0, 0) (μr := [_, _, _, _, _]) ⟨Nat.zero_le _, rfl⟩ (And.intro rfl (And.intro rfl (And.intro rfl (And.intro rfl (And.intro rfl (And.intro rfl (And.intro rfl (trivial)))))))) (permI [] rfl) (fun _ h => nomatch h) ?_
   rintro ⟨k, bd⟩ ⟨hk, hbd⟩
   try dsimp only at hk
   try dsimp only at hbd
   show CJ _ _ _ [(7, .pointer (some ⟨B9, 0, none⟩)), (10, .pointer (some ⟨b3, 0, none⟩)), (12, .slice A5 l5.length c5), (13, .int .i64 (bd : Nat)), (87, .slice A9 xs.length c9), (88, .int .i64 xs.length), (89, .int .i64 (k : Nat))] (_ :: _ :: _ :: _ :: _ :: _) _
   refine CJ_seq ?_
   refine CJ_reg ?_
   refine LJ_y rfl rfl (YJ_bin rfl rfl rfl) ?_
   refine LJ_nil ?_
   refine QJ_then ?_
   refine CJ_seq ?_
   refine CJ_cond rfl (fun h90 => ?_) (fun h90 => ?_)
   ·simp only [decide_eq_true_eq] at h90
    have hbdl : bd ≤ k := by
     rw [hbd]
     exact Nat.le_trans (List.length_filter_le _ _) (by rw [List.length_take]; omega)
    obtain ⟨e9, he9⟩ : ∃ e, xs[k]? = some e := ⟨_, List.getElem?_eq_getElem (by omega)⟩
    have hm9 := hxp.mem_iff.1 (List.mem_of_getElem? he9)
    obtain ⟨hb0, hb1, hb2⟩ := eb e9 hm9
    obtain ⟨y, hy, j, hj, y2, hy2, j2, hj2, t, t2, ht, ht2, hk1, hk2, hf1, hf2, hhl⟩ := hG.edge hm9
    obtain ⟨⟨q1, q2⟩, q3, q4⟩ := hG.kvb hy hk1
    have hyl := (List.getElem?_eq_some_iff.1 ht).1
    have hyl2 := (List.getElem?_eq_some_iff.1 ht2).1
    refine CJ_skip ?_
    refine QJ_then ?_
    refine CJ_seq ?_
    refine CJ_block ?_
    refine CJ_seq ?_
    refine CJ_reg ?_
    refine LJ_y rfl rfl (YJ_move rfl) ?_
    refine LJ_y rfl rfl (YJ_ixFact (n' := xs.length) rfl rfl elt_90 m0 (by decide) (by omega) (by omega) (by omega)) ?_
    refine LJ_y rfl rfl (YJ_loadFactN (vs := [.int .i64 e9.1, .int .i64 e9.2.1, .bool e9.2.2.1, .bool e9.2.2.2]) (xs := edCells xs) rfl tyi_95 m0 (ed_row (i := ((k : Nat) : Int).toNat) (by simpa using he9)) rfl) ?_
    refine LJ_alloc (cs := #[_, _, _, _]) rfl rfl zer_95 rfl ?_
    intro b6
    refine LJ_y rfl rfl (YJ_assign rfl) ?_
    refine LJ_store (cs' := #[.int .i64 e9.1, .int .i64 e9.2.1, .bool e9.2.2.1, .bool e9.2.2.2]) (μ' := [_, _, _, _, _, _]) 0 rfl rfl rfl rfl tyi_95 rfl (Nat.le_of_ble_eq_true rfl) rfl rfl rfl ?_
    refine LJ_nil ?_
    refine QJ_then ?_
    refine CJ_seq ?_
    refine CJ_seq ?_
    refine CJ_regD mix (by kernel_rfl) (fun _ _ _ _ _ h => h) _ _ (fun _ h => h) (fun _ h => h) ?_
    refine AJ_y 0 rfl (by kernel_rfl) (by kernel_rfl) rfl rfl (YJ_fieldOwn rfl fld_95_0 rfl) ?_
    refine AJ_y 1 rfl (by kernel_rfl) (by kernel_rfl) rfl rfl (YJ_loadL rfl tyi_3 m0 rfl) ?_
    refine AJ_y 2 rfl (by kernel_rfl) (by kernel_rfl) rfl rfl (YJ_fieldOwn rfl fld_95_1 rfl) ?_
    refine AJ_y 3 rfl (by kernel_rfl) (by kernel_rfl) rfl rfl (YJ_loadL rfl tyi_3 m0 rfl) ?_
    refine AJ_y 4 rfl (by kernel_rfl) (by kernel_rfl) rfl rfl (YJ_bin rfl rfl rfl) ?_
    refine AJ_val (v := .bool false) (congrArg Value.bool (decide_eq_false (by omega))) ?_
    refine AJ_y 5 rfl (by kernel_rfl) (by kernel_rfl) rfl rfl (YJ_move rfl) ?_
    refine AJ_bool (c := false) rfl ?_
    refine AJ_y 6 rfl (by kernel_rfl) (by kernel_rfl) rfl rfl (YJ_move rfl) ?_
    refine AJ_y 7 rfl (by kernel_rfl) (by kernel_rfl) rfl rfl (YJ_bin rfl rfl rfl) ?_
    refine AJ_y 8 rfl (by kernel_rfl) (by kernel_rfl) rfl rfl (YJ_move rfl) ?_
    refine AJ_boolC (fun h102 => ?_) (fun h102 => ?_)
    ·simp only [decide_eq_true_eq] at h102
     obtain ⟨p9, hp9⟩ : ∃ e, xs[k - 1]? = some e := ⟨_, List.getElem?_eq_getElem (by omega)⟩
     have hlt9 : edLt p9 e9 := by
      obtain ⟨w1, w2⟩ := List.getElem?_eq_some_iff.1 hp9
      obtain ⟨w3, w4⟩ := List.getElem?_eq_some_iff.1 he9
      have := List.pairwise_iff_getElem.1 hxs (k - 1) k w1 w3 (by omega)
      rw [w2, w4] at this
      exact this
     refine AJ_y 9 rfl (by kernel_rfl) (by kernel_rfl) rfl rfl (YJ_loadL rfl tyi_90 m2 rfl) ?_
     refine AJ_y 10 rfl (by kernel_rfl) (by kernel_rfl) rfl rfl (YJ_move rfl) ?_
     refine AJ_y 11 rfl (by kernel_rfl) (by kernel_rfl) rfl rfl (YJ_bin rfl rfl (iop_sub (by omega))) ?_
     refine AJ_y 12 rfl (by kernel_rfl) (by kernel_rfl) rfl rfl (YJ_ixFact (n' := xs.length) rfl rfl elt_90 m0 (by decide) (by omega) (by omega) (by omega)) ?_
     refine AJ_y 13 rfl (by kernel_rfl) (by kernel_rfl) rfl rfl (YJ_fieldAddr rfl fld_95_0) ?_
     refine AJ_y 14 rfl (by kernel_rfl) (by kernel_rfl) rfl rfl (YJ_loadFactP (A := A9) (j := (k - 1) * 4 + 0) rfl (by rw [Addr.add_add]; congr 1; omega) tyi_3 m0 (ed_get (c := 0) hp9 (by decide) rfl)) ?_
     refine AJ_y 15 rfl (by kernel_rfl) (by kernel_rfl) rfl rfl (YJ_fieldOwn rfl fld_95_0 rfl) ?_
     refine AJ_y 16 rfl (by kernel_rfl) (by kernel_rfl) rfl rfl (YJ_loadL rfl tyi_3 m0 rfl) ?_
     refine AJ_y 17 rfl (by kernel_rfl) (by kernel_rfl) rfl rfl (YJ_bin rfl rfl rfl) ?_
     refine AJ_val (v := .bool false) (congrArg Value.bool (decide_eq_false (by unfold edLt at hlt9; omega))) ?_
     refine AJ_y 18 rfl (by kernel_rfl) (by kernel_rfl) rfl rfl (YJ_move rfl) ?_
     refine AJ_bool (c := false) rfl ?_
     refine AJ_y 19 rfl (by kernel_rfl) (by kernel_rfl) rfl rfl (YJ_loadL rfl tyi_90 m2 rfl) ?_
     refine AJ_y 20 rfl (by kernel_rfl) (by kernel_rfl) rfl rfl (YJ_move rfl) ?_
     refine AJ_y 21 rfl (by kernel_rfl) (by kernel_rfl) rfl rfl (YJ_bin rfl rfl (iop_sub (by omega))) ?_
     refine AJ_y 22 rfl (by kernel_rfl) (by kernel_rfl) rfl rfl (YJ_ixFact (n' := xs.length) rfl rfl elt_90 m0 (by decide) (by omega) (by omega) (by omega)) ?_
     refine AJ_y 23 rfl (by kernel_rfl) (by kernel_rfl) rfl rfl (YJ_fieldAddr rfl fld_95_0) ?_
     refine AJ_y 24 rfl (by kernel_rfl) (by kernel_rfl) rfl rfl (YJ_loadFactP (A := A9) (j := (k - 1) * 4 + 0) rfl (by rw [Addr.add_add]; congr 1; omega) tyi_3 m0 (ed_get (c := 0) hp9 (by decide) rfl)) ?_
     refine AJ_y 25 rfl (by kernel_rfl) (by kernel_rfl) rfl rfl (YJ_fieldOwn rfl fld_95_0 rfl) ?_
     refine AJ_y 26 rfl (by kernel_rfl) (by kernel_rfl) rfl rfl (YJ_loadL rfl tyi_3 m0 rfl) ?_
     refine AJ_y 27 rfl (by kernel_rfl) (by kernel_rfl) rfl rfl (YJ_bin rfl rfl rfl) ?_
     refine AJ_y 28 rfl (by kernel_rfl) (by kernel_rfl) rfl rfl (YJ_move rfl) ?_
     refine AJ_boolC (fun h122 => ?_) (fun h122 => ?_)
     ·simp only [decide_eq_true_eq] at h122
      refine AJ_y 29 rfl (by kernel_rfl) (by kernel_rfl) rfl rfl (YJ_loadL rfl tyi_90 m2 rfl) ?_
      refine AJ_y 30 rfl (by kernel_rfl) (by kernel_rfl) rfl rfl (YJ_move rfl) ?_
      refine AJ_y 31 rfl (by kernel_rfl) (by kernel_rfl) rfl rfl (YJ_bin rfl rfl (iop_sub (by omega))) ?_
      refine AJ_y 32 rfl (by kernel_rfl) (by kernel_rfl) rfl rfl (YJ_ixFact (n' := xs.length) rfl rfl elt_90 m0 (by decide) (by omega) (by omega) (by omega)) ?_
      refine AJ_y 33 rfl (by kernel_rfl) (by kernel_rfl) rfl rfl (YJ_fieldAddr rfl fld_95_1) ?_
      refine AJ_y 34 rfl (by kernel_rfl) (by kernel_rfl) rfl rfl (YJ_loadFactP (A := A9) (j := (k - 1) * 4 + 1) rfl (by rw [Addr.add_add]; congr 1; omega) tyi_3 m0 (ed_get (c := 1) hp9 (by decide) rfl)) ?_
      refine AJ_y 35 rfl (by kernel_rfl) (by kernel_rfl) rfl rfl (YJ_fieldOwn rfl fld_95_1 rfl) ?_
      refine AJ_y 36 rfl (by kernel_rfl) (by kernel_rfl) rfl rfl (YJ_loadL rfl tyi_3 m0 rfl) ?_
      refine AJ_y 37 rfl (by kernel_rfl) (by kernel_rfl) rfl rfl (YJ_bin rfl rfl rfl) ?_
      refine AJ_val (v := .bool false) (congrArg Value.bool (decide_eq_false (by unfold edLt at hlt9; omega))) ?_
      refine AJ_y 38 rfl (by kernel_rfl) (by kernel_rfl) rfl rfl (YJ_pickT rfl rfl) ?_
      refine AJ_y 39 rfl (by kernel_rfl) (by kernel_rfl) rfl rfl (YJ_pickF rfl rfl) ?_
      refine AJ_y 40 rfl (by kernel_rfl) (by kernel_rfl) rfl rfl (YJ_pickT rfl rfl) ?_
      refine AJ_y 41 rfl (by kernel_rfl) (by kernel_rfl) rfl rfl (YJ_pickF rfl rfl) ?_
      refine AJ_done (by kernel_rfl) ?_
      refine QJ_then ?_
      refine CJ_condF rfl ?_
      refine CJ_skip ?_
      refine QJ_then ?_
      refine CJ_seq ?_
      refine CJ_reg ?_
      refine LJ_y rfl rfl (YJ_move rfl) ?_
      refine LJ_y rfl rfl (YJ_fieldOwn rfl fld_95_0 rfl) ?_
      refine LJ_y rfl rfl (YJ_loadL rfl tyi_3 m0 rfl) ?_
      refine LJ_y rfl rfl (YJ_fieldOwn rfl fld_95_1 rfl) ?_
      refine LJ_y rfl rfl (YJ_loadL rfl tyi_3 m0 rfl) ?_
      refine LJ_callX rfl rfl rfl rfl rfl (find9_c (h := hm) (pts := M9.pts) (a := e9.1) (b := e9.2.1) hlen hmA hal (fun h0 _ => by have := hG.arh (p := (max e9.1 e9.2.1).toNat) (by omega); rw [Int.toNat_of_nonneg h0] at this; exact this)) (fun r h => .tail _ (.tail _ (.tail _ (.tail _ (frz_at r h))))) ?_
      rintro ⟨r1, r2, r3⟩ hr
      have he9 := hG.fnd hy ht hj hk1 hr
      try dsimp only at he9
      rw [Prod.mk.injEq, Prod.mk.injEq] at he9
      obtain ⟨rfl, rfl, rfl⟩ := he9
      refine LJ_y rfl rfl (YJ_move rfl) ?_
      refine LJ_y rfl rfl (YJ_extract rfl rfl) ?_
      refine LJ_val (v := .int .i64 (y.1 : Nat)) (rfl) ?_
      refine LJ_y rfl rfl (YJ_extract rfl rfl) ?_
      refine LJ_val (v := .int .i64 (j : Nat)) (rfl) ?_
      refine LJ_y rfl rfl (YJ_extract rfl rfl) ?_
      refine LJ_val (v := .bool true) (rfl) ?_
      refine LJ_y rfl rfl (YJ_assign rfl) ?_
      refine LJ_y rfl rfl (YJ_assign rfl) ?_
      refine LJ_y rfl rfl (YJ_assign rfl) ?_
      refine LJ_nil ?_
      refine QJ_then ?_
      refine CJ_seq ?_
      refine CJ_reg ?_
      refine LJ_y rfl rfl (YJ_move rfl) ?_
      refine LJ_y rfl rfl (YJ_fieldOwn rfl fld_95_1 rfl) ?_
      refine LJ_y rfl rfl (YJ_loadL rfl tyi_3 m0 rfl) ?_
      refine LJ_y rfl rfl (YJ_fieldOwn rfl fld_95_0 rfl) ?_
      refine LJ_y rfl rfl (YJ_loadL rfl tyi_3 m0 rfl) ?_
      refine LJ_callX rfl rfl rfl rfl rfl (find9_c (h := hm) (pts := M9.pts) (a := e9.2.1) (b := e9.1) hlen hmA hal (fun h0 _ => by have := hG.arh (p := (max e9.2.1 e9.1).toNat) (by omega); rw [Int.toNat_of_nonneg h0] at this; exact this)) (fun r h => .tail _ (.tail _ (.tail _ (.tail _ (frz_at r h))))) ?_
      rintro ⟨r1, r2, r3⟩ hr
      have he9 := hG.fnd hy2 ht2 hj2 hk2 hr
      try dsimp only at he9
      rw [Prod.mk.injEq, Prod.mk.injEq] at he9
      obtain ⟨rfl, rfl, rfl⟩ := he9
      refine LJ_y rfl rfl (YJ_move rfl) ?_
      refine LJ_y rfl rfl (YJ_extract rfl rfl) ?_
      refine LJ_val (v := .int .i64 (y2.1 : Nat)) (rfl) ?_
      refine LJ_y rfl rfl (YJ_extract rfl rfl) ?_
      refine LJ_val (v := .int .i64 (j2 : Nat)) (rfl) ?_
      refine LJ_y rfl rfl (YJ_extract rfl rfl) ?_
      refine LJ_val (v := .bool true) (rfl) ?_
      refine LJ_y rfl rfl (YJ_assign rfl) ?_
      refine LJ_y rfl rfl (YJ_assign rfl) ?_
      refine LJ_y rfl rfl (YJ_assign rfl) ?_
      refine LJ_nil ?_
      refine QJ_then ?_
      refine CJ_seq ?_
      refine CJ_seq ?_
      refine CJ_regD mix (by kernel_rfl) (fun _ _ _ _ _ h => h) _ _ (fun _ h => h) (fun _ h => h) ?_
      refine AJ_y 0 rfl (by kernel_rfl) (by kernel_rfl) rfl rfl (YJ_move rfl) ?_
      refine AJ_y 1 rfl (by kernel_rfl) (by kernel_rfl) rfl rfl (YJ_not rfl) ?_
      refine AJ_y 2 rfl (by kernel_rfl) (by kernel_rfl) rfl rfl (YJ_move rfl) ?_
      refine AJ_bool (c := false) rfl ?_
      refine AJ_y 3 rfl (by kernel_rfl) (by kernel_rfl) rfl rfl (YJ_move rfl) ?_
      refine AJ_y 4 rfl (by kernel_rfl) (by kernel_rfl) rfl rfl (YJ_not rfl) ?_
      refine AJ_y 5 rfl (by kernel_rfl) (by kernel_rfl) rfl rfl (YJ_pickF rfl rfl) ?_
      refine AJ_y 6 rfl (by kernel_rfl) (by kernel_rfl) rfl rfl (YJ_move rfl) ?_
      refine AJ_bool (c := false) rfl ?_
      refine AJ_y 7 rfl (by kernel_rfl) (by kernel_rfl) rfl rfl (YJ_move rfl) ?_
      refine AJ_y 8 rfl (by kernel_rfl) (by kernel_rfl) rfl rfl (YJ_nilCheck rfl) ?_
      refine AJ_y 9 rfl (by kernel_rfl) (by kernel_rfl) rfl rfl (YJ_fieldOwn rfl fld_57_1 rfl) ?_
      refine AJ_y 10 rfl (by kernel_rfl) (by kernel_rfl) rfl rfl (YJ_loadFactP (A := some ⟨B9, 0, none⟩) (j := 1) rfl rfl tyi_54 m4 rfl) ?_
      refine AJ_y 11 rfl (by kernel_rfl) (by kernel_rfl) rfl rfl (YJ_move rfl) ?_
      refine AJ_y 12 rfl (by kernel_rfl) (by kernel_rfl) rfl rfl (YJ_move rfl) ?_
      refine AJ_y 13 rfl (by kernel_rfl) (by kernel_rfl) rfl rfl (YJ_ixFact (n' := M9.tris.length) rfl rfl elt_54 m6 (by decide) (by omega) (by omega) (by omega)) ?_
      refine AJ_y 14 rfl (by kernel_rfl) (by kernel_rfl) rfl rfl (YJ_fieldAddr rfl fld_37_2) ?_
      refine AJ_y 15 rfl (by kernel_rfl) (by kernel_rfl) rfl rfl (YJ_ixArrP rfl rfl arrt_35 (by omega) (by omega)) ?_
      refine AJ_y 16 rfl (by kernel_rfl) (by kernel_rfl) rfl rfl (YJ_loadFactP (A := hm.T) (j := y.1 * 9 + (6 + j)) rfl (by rw [Addr.add_add, Addr.add_add]; congr 1; omega) tyi_4 m6 (trCells_f ht hj)) ?_
      refine AJ_y 17 rfl (by kernel_rfl) (by kernel_rfl) rfl rfl (YJ_fieldOwn rfl fld_95_2 rfl) ?_
      refine AJ_y 18 rfl (by kernel_rfl) (by kernel_rfl) rfl rfl (YJ_loadL rfl tyi_4 m0 rfl) ?_
      refine AJ_y 19 rfl (by kernel_rfl) (by kernel_rfl) rfl rfl (YJ_neb rfl rfl ubool_4) ?_
      refine AJ_val (v := .bool false) (by rw [hf1]; simp) ?_
      refine AJ_y 20 rfl (by kernel_rfl) (by kernel_rfl) rfl rfl (YJ_pickF rfl rfl) ?_
      refine AJ_y 21 rfl (by kernel_rfl) (by kernel_rfl) rfl rfl (YJ_move rfl) ?_
      refine AJ_bool (c := false) rfl ?_
      refine AJ_y 22 rfl (by kernel_rfl) (by kernel_rfl) rfl rfl (YJ_move rfl) ?_
      refine AJ_y 23 rfl (by kernel_rfl) (by kernel_rfl) rfl rfl (YJ_nilCheck rfl) ?_
      refine AJ_y 24 rfl (by kernel_rfl) (by kernel_rfl) rfl rfl (YJ_fieldOwn rfl fld_57_1 rfl) ?_
      refine AJ_y 25 rfl (by kernel_rfl) (by kernel_rfl) rfl rfl (YJ_loadFactP (A := some ⟨B9, 0, none⟩) (j := 1) rfl rfl tyi_54 m4 rfl) ?_
      refine AJ_y 26 rfl (by kernel_rfl) (by kernel_rfl) rfl rfl (YJ_move rfl) ?_
      refine AJ_y 27 rfl (by kernel_rfl) (by kernel_rfl) rfl rfl (YJ_move rfl) ?_
      refine AJ_y 28 rfl (by kernel_rfl) (by kernel_rfl) rfl rfl (YJ_ixFact (n' := M9.tris.length) rfl rfl elt_54 m6 (by decide) (by omega) (by omega) (by omega)) ?_
      refine AJ_y 29 rfl (by kernel_rfl) (by kernel_rfl) rfl rfl (YJ_fieldAddr rfl fld_37_2) ?_
      refine AJ_y 30 rfl (by kernel_rfl) (by kernel_rfl) rfl rfl (YJ_ixArrP rfl rfl arrt_35 (by omega) (by omega)) ?_
      refine AJ_y 31 rfl (by kernel_rfl) (by kernel_rfl) rfl rfl (YJ_loadFactP (A := hm.T) (j := y2.1 * 9 + (6 + j2)) rfl (by rw [Addr.add_add, Addr.add_add]; congr 1; omega) tyi_4 m6 (trCells_f ht2 hj2)) ?_
      refine AJ_y 32 rfl (by kernel_rfl) (by kernel_rfl) rfl rfl (YJ_fieldOwn rfl fld_95_2 rfl) ?_
      refine AJ_y 33 rfl (by kernel_rfl) (by kernel_rfl) rfl rfl (YJ_loadL rfl tyi_4 m0 rfl) ?_
      refine AJ_y 34 rfl (by kernel_rfl) (by kernel_rfl) rfl rfl (YJ_neb rfl rfl ubool_4) ?_
      refine AJ_val (v := .bool false) (by rw [hf2]; simp) ?_
      refine AJ_y 35 rfl (by kernel_rfl) (by kernel_rfl) rfl rfl (YJ_pickF rfl rfl) ?_
      refine AJ_y 36 rfl (by kernel_rfl) (by kernel_rfl) rfl rfl (YJ_move rfl) ?_
      refine AJ_bool (c := false) rfl ?_
      refine AJ_y 37 rfl (by kernel_rfl) (by kernel_rfl) rfl rfl (YJ_fieldOwn rfl fld_95_3 rfl) ?_
      refine AJ_y 38 rfl (by kernel_rfl) (by kernel_rfl) rfl rfl (YJ_loadL rfl tyi_4 m0 rfl) ?_
      refine AJ_y 39 rfl (by kernel_rfl) (by kernel_rfl) rfl rfl (YJ_move rfl) ?_
      refine AJ_y 40 rfl (by kernel_rfl) (by kernel_rfl) rfl rfl (YJ_move rfl) ?_
      refine AJ_call0 41 rfl (by kernel_rfl) rfl rfl rfl rfl rfl (real_c (h := hm) (pts := M9.pts) (tris := M9.tris)) (fun r h => .tail _ (.tail _ (.tail _ (.tail _ (frz_mesh r h))))) ?_
      refine AJ_y 42 rfl (by kernel_rfl) (by kernel_rfl) rfl rfl (YJ_not rfl) ?_
      refine AJ_y 43 rfl (by kernel_rfl) (by kernel_rfl) rfl rfl (YJ_move rfl) ?_
      refine AJ_boolC (fun h199 => ?_) (fun h199 => ?_)
      ·simp only [decide_eq_false_iff_not, Bool.not_eq_true'] at h199
       refine AJ_skip 44 rfl (by kernel_rfl) (by kernel_rfl) rfl rfl ?_
       refine AJ_skip 45 rfl (by kernel_rfl) (by kernel_rfl) rfl rfl ?_
       refine AJ_skip 46 rfl (by kernel_rfl) (by kernel_rfl) rfl rfl ?_
       refine AJ_skip 47 rfl (by kernel_rfl) (by kernel_rfl) rfl rfl ?_
       refine AJ_y 48 rfl (by kernel_rfl) (by kernel_rfl) rfl rfl (YJ_pickT rfl rfl) ?_
       refine AJ_y 49 rfl (by kernel_rfl) (by kernel_rfl) rfl rfl (YJ_neb rfl rfl ubool_4) ?_
       refine AJ_val (v := .bool false) (by rw [hhl, decide_eq_false h199]; rfl) ?_
       refine AJ_y 50 rfl (by kernel_rfl) (by kernel_rfl) rfl rfl (YJ_pickF rfl rfl) ?_
       refine AJ_done (by kernel_rfl) ?_
       refine QJ_then ?_
       refine CJ_condF rfl ?_
       refine CJ_skip ?_
       refine QJ_then ?_
       refine CJ_seq ?_
       refine CJ_reg ?_
       refine LJ_y rfl rfl (YJ_fieldOwn rfl fld_95_3 rfl) ?_
       refine LJ_y rfl rfl (YJ_loadL rfl tyi_4 m0 rfl) ?_
       refine LJ_nil ?_
       refine QJ_then ?_
       refine CJ_cond rfl (fun h208 => ?_) (fun h208 => ?_)
       ·skip
        refine CJ_reg ?_
        refine LJ_y rfl rfl (YJ_move rfl) ?_
        refine LJ_y rfl rfl (YJ_bin rfl rfl (iop_add (by omega))) ?_
        refine LJ_y rfl rfl (YJ_assign rfl) ?_
        refine LJ_nil ?_
        refine QJ_in_normal ?_
        refine QJ_then ?_
        refine CJ_reg ?_
        refine LJ_y rfl rfl (YJ_bin rfl rfl (iop_add (by omega))) ?_
        refine LJ_y rfl rfl (YJ_move rfl) ?_
        refine LJ_nil ?_
        refine QJ_roundF (F := fun (i : Nat × Nat) => ⟨[(7, .pointer (some ⟨B9, 0, none⟩)), (10, .pointer (some ⟨b3, 0, none⟩)), (12, .slice A5 l5.length c5), (13, .int .i64 (i.2 : Nat)), (87, .slice A9 xs.length c9), (88, .int .i64 xs.length), (89, .int .i64 (i.1 : Nat))], [], []⟩) (I := fun (i : Nat × Nat) => i.1 ≤ xs.length ∧ i.2 = ((xs.take i.1).filter (·.2.2.2)).length) (m := fun (i : Nat × Nat) => xs.length - i.1) (i := (k, bd)) ((k + 1, bd + 1)) (μd := [_]) ⟨by omega, by dsimp only; rw [fil_T he9 h208, ← hbd]⟩ (by dsimp only; omega) (And.intro rfl (And.intro rfl (And.intro rfl (And.intro rfl (And.intro rfl (And.intro rfl (And.intro rfl (trivial)))))))) (permI [1, 1, 1, 1, 1] rfl) (fun _ h => nomatch h) (fun _ h => h)
       ·skip
        refine CJ_skip ?_
        refine QJ_in_normal ?_
        refine QJ_then ?_
        refine CJ_reg ?_
        refine LJ_y rfl rfl (YJ_bin rfl rfl (iop_add (by omega))) ?_
        refine LJ_y rfl rfl (YJ_move rfl) ?_
        refine LJ_nil ?_
        refine QJ_roundF (F := fun (i : Nat × Nat) => ⟨[(7, .pointer (some ⟨B9, 0, none⟩)), (10, .pointer (some ⟨b3, 0, none⟩)), (12, .slice A5 l5.length c5), (13, .int .i64 (i.2 : Nat)), (87, .slice A9 xs.length c9), (88, .int .i64 xs.length), (89, .int .i64 (i.1 : Nat))], [], []⟩) (I := fun (i : Nat × Nat) => i.1 ≤ xs.length ∧ i.2 = ((xs.take i.1).filter (·.2.2.2)).length) (m := fun (i : Nat × Nat) => xs.length - i.1) (i := (k, bd)) ((k + 1, bd)) (μd := [_]) ⟨by omega, by dsimp only; rw [fil_F he9 h208]; exact hbd⟩ (by dsimp only; omega) (And.intro rfl (And.intro rfl (And.intro rfl (And.intro rfl (And.intro rfl (And.intro rfl (And.intro rfl (trivial)))))))) (permI [1, 1, 1, 1, 1] rfl) (fun _ h => nomatch h) (fun _ h => h)
      ·simp only [decide_eq_true_eq, Bool.not_eq_false'] at h199
       refine AJ_y 44 rfl (by kernel_rfl) (by kernel_rfl) rfl rfl (YJ_move rfl) ?_
       refine AJ_y 45 rfl (by kernel_rfl) (by kernel_rfl) rfl rfl (YJ_move rfl) ?_
       refine AJ_call0 46 rfl (by kernel_rfl) rfl rfl rfl rfl rfl (real_c (h := hm) (pts := M9.pts) (tris := M9.tris)) (fun r h => .tail _ (.tail _ (.tail _ (.tail _ (frz_mesh r h))))) ?_
       refine AJ_y 47 rfl (by kernel_rfl) (by kernel_rfl) rfl rfl (YJ_not rfl) ?_
       refine AJ_y 48 rfl (by kernel_rfl) (by kernel_rfl) rfl rfl (YJ_pickF rfl rfl) ?_
       refine AJ_y 49 rfl (by kernel_rfl) (by kernel_rfl) rfl rfl (YJ_neb rfl rfl ubool_4) ?_
       refine AJ_val (v := .bool false) (by rw [hhl, decide_eq_true h199]; simp) ?_
       refine AJ_y 50 rfl (by kernel_rfl) (by kernel_rfl) rfl rfl (YJ_pickF rfl rfl) ?_
       refine AJ_done (by kernel_rfl) ?_
       refine QJ_then ?_
       refine CJ_condF rfl ?_
       refine CJ_skip ?_
       refine QJ_then ?_
       refine CJ_seq ?_
       refine CJ_reg ?_
       refine LJ_y rfl rfl (YJ_fieldOwn rfl fld_95_3 rfl) ?_
       refine LJ_y rfl rfl (YJ_loadL rfl tyi_4 m0 rfl) ?_
       refine LJ_nil ?_
       refine QJ_then ?_
       refine CJ_cond rfl (fun h208 => ?_) (fun h208 => ?_)
       ·skip
        refine CJ_reg ?_
        refine LJ_y rfl rfl (YJ_move rfl) ?_
        refine LJ_y rfl rfl (YJ_bin rfl rfl (iop_add (by omega))) ?_
        refine LJ_y rfl rfl (YJ_assign rfl) ?_
        refine LJ_nil ?_
        refine QJ_in_normal ?_
        refine QJ_then ?_
        refine CJ_reg ?_
        refine LJ_y rfl rfl (YJ_bin rfl rfl (iop_add (by omega))) ?_
        refine LJ_y rfl rfl (YJ_move rfl) ?_
        refine LJ_nil ?_
        refine QJ_roundF (F := fun (i : Nat × Nat) => ⟨[(7, .pointer (some ⟨B9, 0, none⟩)), (10, .pointer (some ⟨b3, 0, none⟩)), (12, .slice A5 l5.length c5), (13, .int .i64 (i.2 : Nat)), (87, .slice A9 xs.length c9), (88, .int .i64 xs.length), (89, .int .i64 (i.1 : Nat))], [], []⟩) (I := fun (i : Nat × Nat) => i.1 ≤ xs.length ∧ i.2 = ((xs.take i.1).filter (·.2.2.2)).length) (m := fun (i : Nat × Nat) => xs.length - i.1) (i := (k, bd)) ((k + 1, bd + 1)) (μd := [_]) ⟨by omega, by dsimp only; rw [fil_T he9 h208, ← hbd]⟩ (by dsimp only; omega) (And.intro rfl (And.intro rfl (And.intro rfl (And.intro rfl (And.intro rfl (And.intro rfl (And.intro rfl (trivial)))))))) (permI [1, 1, 1, 1, 1] rfl) (fun _ h => nomatch h) (fun _ h => h)
       ·skip
        refine CJ_skip ?_
        refine QJ_in_normal ?_
        refine QJ_then ?_
        refine CJ_reg ?_
        refine LJ_y rfl rfl (YJ_bin rfl rfl (iop_add (by omega))) ?_
        refine LJ_y rfl rfl (YJ_move rfl) ?_
        refine LJ_nil ?_
        refine QJ_roundF (F := fun (i : Nat × Nat) => ⟨[(7, .pointer (some ⟨B9, 0, none⟩)), (10, .pointer (some ⟨b3, 0, none⟩)), (12, .slice A5 l5.length c5), (13, .int .i64 (i.2 : Nat)), (87, .slice A9 xs.length c9), (88, .int .i64 xs.length), (89, .int .i64 (i.1 : Nat))], [], []⟩) (I := fun (i : Nat × Nat) => i.1 ≤ xs.length ∧ i.2 = ((xs.take i.1).filter (·.2.2.2)).length) (m := fun (i : Nat × Nat) => xs.length - i.1) (i := (k, bd)) ((k + 1, bd)) (μd := [_]) ⟨by omega, by dsimp only; rw [fil_F he9 h208]; exact hbd⟩ (by dsimp only; omega) (And.intro rfl (And.intro rfl (And.intro rfl (And.intro rfl (And.intro rfl (And.intro rfl (And.intro rfl (trivial)))))))) (permI [1, 1, 1, 1, 1] rfl) (fun _ h => nomatch h) (fun _ h => h)
     ·simp only [decide_eq_false_iff_not] at h122
      refine AJ_skip 29 rfl (by kernel_rfl) (by kernel_rfl) rfl rfl ?_
      refine AJ_skip 30 rfl (by kernel_rfl) (by kernel_rfl) rfl rfl ?_
      refine AJ_skip 31 rfl (by kernel_rfl) (by kernel_rfl) rfl rfl ?_
      refine AJ_skip 32 rfl (by kernel_rfl) (by kernel_rfl) rfl rfl ?_
      refine AJ_skip 33 rfl (by kernel_rfl) (by kernel_rfl) rfl rfl ?_
      refine AJ_skip 34 rfl (by kernel_rfl) (by kernel_rfl) rfl rfl ?_
      refine AJ_skip 35 rfl (by kernel_rfl) (by kernel_rfl) rfl rfl ?_
      refine AJ_skip 36 rfl (by kernel_rfl) (by kernel_rfl) rfl rfl ?_
      refine AJ_skip 37 rfl (by kernel_rfl) (by kernel_rfl) rfl rfl ?_
      refine AJ_y 38 rfl (by kernel_rfl) (by kernel_rfl) rfl rfl (YJ_pickF rfl rfl) ?_
      refine AJ_y 39 rfl (by kernel_rfl) (by kernel_rfl) rfl rfl (YJ_pickF rfl rfl) ?_
      refine AJ_y 40 rfl (by kernel_rfl) (by kernel_rfl) rfl rfl (YJ_pickT rfl rfl) ?_
      refine AJ_y 41 rfl (by kernel_rfl) (by kernel_rfl) rfl rfl (YJ_pickF rfl rfl) ?_
      refine AJ_done (by kernel_rfl) ?_
      refine QJ_then ?_
      refine CJ_condF rfl ?_
      refine CJ_skip ?_
      refine QJ_then ?_
      refine CJ_seq ?_
      refine CJ_reg ?_
      refine LJ_y rfl rfl (YJ_move rfl) ?_
      refine LJ_y rfl rfl (YJ_fieldOwn rfl fld_95_0 rfl) ?_
      refine LJ_y rfl rfl (YJ_loadL rfl tyi_3 m0 rfl) ?_
      refine LJ_y rfl rfl (YJ_fieldOwn rfl fld_95_1 rfl) ?_
      refine LJ_y rfl rfl (YJ_loadL rfl tyi_3 m0 rfl) ?_
      refine LJ_callX rfl rfl rfl rfl rfl (find9_c (h := hm) (pts := M9.pts) (a := e9.1) (b := e9.2.1) hlen hmA hal (fun h0 _ => by have := hG.arh (p := (max e9.1 e9.2.1).toNat) (by omega); rw [Int.toNat_of_nonneg h0] at this; exact this)) (fun r h => .tail _ (.tail _ (.tail _ (.tail _ (frz_at r h))))) ?_
      rintro ⟨r1, r2, r3⟩ hr
      have he9 := hG.fnd hy ht hj hk1 hr
      try dsimp only at he9
      rw [Prod.mk.injEq, Prod.mk.injEq] at he9
      obtain ⟨rfl, rfl, rfl⟩ := he9
      refine LJ_y rfl rfl (YJ_move rfl) ?_
      refine LJ_y rfl rfl (YJ_extract rfl rfl) ?_
      refine LJ_val (v := .int .i64 (y.1 : Nat)) (rfl) ?_
      refine LJ_y rfl rfl (YJ_extract rfl rfl) ?_
      refine LJ_val (v := .int .i64 (j : Nat)) (rfl) ?_
      refine LJ_y rfl rfl (YJ_extract rfl rfl) ?_
      refine LJ_val (v := .bool true) (rfl) ?_
      refine LJ_y rfl rfl (YJ_assign rfl) ?_
      refine LJ_y rfl rfl (YJ_assign rfl) ?_
      refine LJ_y rfl rfl (YJ_assign rfl) ?_
      refine LJ_nil ?_
      refine QJ_then ?_
      refine CJ_seq ?_
      refine CJ_reg ?_
      refine LJ_y rfl rfl (YJ_move rfl) ?_
      refine LJ_y rfl rfl (YJ_fieldOwn rfl fld_95_1 rfl) ?_
      refine LJ_y rfl rfl (YJ_loadL rfl tyi_3 m0 rfl) ?_
      refine LJ_y rfl rfl (YJ_fieldOwn rfl fld_95_0 rfl) ?_
      refine LJ_y rfl rfl (YJ_loadL rfl tyi_3 m0 rfl) ?_
      refine LJ_callX rfl rfl rfl rfl rfl (find9_c (h := hm) (pts := M9.pts) (a := e9.2.1) (b := e9.1) hlen hmA hal (fun h0 _ => by have := hG.arh (p := (max e9.2.1 e9.1).toNat) (by omega); rw [Int.toNat_of_nonneg h0] at this; exact this)) (fun r h => .tail _ (.tail _ (.tail _ (.tail _ (frz_at r h))))) ?_
      rintro ⟨r1, r2, r3⟩ hr
      have he9 := hG.fnd hy2 ht2 hj2 hk2 hr
      try dsimp only at he9
      rw [Prod.mk.injEq, Prod.mk.injEq] at he9
      obtain ⟨rfl, rfl, rfl⟩ := he9
      refine LJ_y rfl rfl (YJ_move rfl) ?_
      refine LJ_y rfl rfl (YJ_extract rfl rfl) ?_
      refine LJ_val (v := .int .i64 (y2.1 : Nat)) (rfl) ?_
      refine LJ_y rfl rfl (YJ_extract rfl rfl) ?_
      refine LJ_val (v := .int .i64 (j2 : Nat)) (rfl) ?_
      refine LJ_y rfl rfl (YJ_extract rfl rfl) ?_
      refine LJ_val (v := .bool true) (rfl) ?_
      refine LJ_y rfl rfl (YJ_assign rfl) ?_
      refine LJ_y rfl rfl (YJ_assign rfl) ?_
      refine LJ_y rfl rfl (YJ_assign rfl) ?_
      refine LJ_nil ?_
      refine QJ_then ?_
      refine CJ_seq ?_
      refine CJ_seq ?_
      refine CJ_regD mix (by kernel_rfl) (fun _ _ _ _ _ h => h) _ _ (fun _ h => h) (fun _ h => h) ?_
      refine AJ_y 0 rfl (by kernel_rfl) (by kernel_rfl) rfl rfl (YJ_move rfl) ?_
      refine AJ_y 1 rfl (by kernel_rfl) (by kernel_rfl) rfl rfl (YJ_not rfl) ?_
      refine AJ_y 2 rfl (by kernel_rfl) (by kernel_rfl) rfl rfl (YJ_move rfl) ?_
      refine AJ_bool (c := false) rfl ?_
      refine AJ_y 3 rfl (by kernel_rfl) (by kernel_rfl) rfl rfl (YJ_move rfl) ?_
      refine AJ_y 4 rfl (by kernel_rfl) (by kernel_rfl) rfl rfl (YJ_not rfl) ?_
      refine AJ_y 5 rfl (by kernel_rfl) (by kernel_rfl) rfl rfl (YJ_pickF rfl rfl) ?_
      refine AJ_y 6 rfl (by kernel_rfl) (by kernel_rfl) rfl rfl (YJ_move rfl) ?_
      refine AJ_bool (c := false) rfl ?_
      refine AJ_y 7 rfl (by kernel_rfl) (by kernel_rfl) rfl rfl (YJ_move rfl) ?_
      refine AJ_y 8 rfl (by kernel_rfl) (by kernel_rfl) rfl rfl (YJ_nilCheck rfl) ?_
      refine AJ_y 9 rfl (by kernel_rfl) (by kernel_rfl) rfl rfl (YJ_fieldOwn rfl fld_57_1 rfl) ?_
      refine AJ_y 10 rfl (by kernel_rfl) (by kernel_rfl) rfl rfl (YJ_loadFactP (A := some ⟨B9, 0, none⟩) (j := 1) rfl rfl tyi_54 m4 rfl) ?_
      refine AJ_y 11 rfl (by kernel_rfl) (by kernel_rfl) rfl rfl (YJ_move rfl) ?_
      refine AJ_y 12 rfl (by kernel_rfl) (by kernel_rfl) rfl rfl (YJ_move rfl) ?_
      refine AJ_y 13 rfl (by kernel_rfl) (by kernel_rfl) rfl rfl (YJ_ixFact (n' := M9.tris.length) rfl rfl elt_54 m6 (by decide) (by omega) (by omega) (by omega)) ?_
      refine AJ_y 14 rfl (by kernel_rfl) (by kernel_rfl) rfl rfl (YJ_fieldAddr rfl fld_37_2) ?_
      refine AJ_y 15 rfl (by kernel_rfl) (by kernel_rfl) rfl rfl (YJ_ixArrP rfl rfl arrt_35 (by omega) (by omega)) ?_
      refine AJ_y 16 rfl (by kernel_rfl) (by kernel_rfl) rfl rfl (YJ_loadFactP (A := hm.T) (j := y.1 * 9 + (6 + j)) rfl (by rw [Addr.add_add, Addr.add_add]; congr 1; omega) tyi_4 m6 (trCells_f ht hj)) ?_
      refine AJ_y 17 rfl (by kernel_rfl) (by kernel_rfl) rfl rfl (YJ_fieldOwn rfl fld_95_2 rfl) ?_
      refine AJ_y 18 rfl (by kernel_rfl) (by kernel_rfl) rfl rfl (YJ_loadL rfl tyi_4 m0 rfl) ?_
      refine AJ_y 19 rfl (by kernel_rfl) (by kernel_rfl) rfl rfl (YJ_neb rfl rfl ubool_4) ?_
      refine AJ_val (v := .bool false) (by rw [hf1]; simp) ?_
      refine AJ_y 20 rfl (by kernel_rfl) (by kernel_rfl) rfl rfl (YJ_pickF rfl rfl) ?_
      refine AJ_y 21 rfl (by kernel_rfl) (by kernel_rfl) rfl rfl (YJ_move rfl) ?_
      refine AJ_bool (c := false) rfl ?_
      refine AJ_y 22 rfl (by kernel_rfl) (by kernel_rfl) rfl rfl (YJ_move rfl) ?_
      refine AJ_y 23 rfl (by kernel_rfl) (by kernel_rfl) rfl rfl (YJ_nilCheck rfl) ?_
      refine AJ_y 24 rfl (by kernel_rfl) (by kernel_rfl) rfl rfl (YJ_fieldOwn rfl fld_57_1 rfl) ?_
      refine AJ_y 25 rfl (by kernel_rfl) (by kernel_rfl) rfl rfl (YJ_loadFactP (A := some ⟨B9, 0, none⟩) (j := 1) rfl rfl tyi_54 m4 rfl) ?_
      refine AJ_y 26 rfl (by kernel_rfl) (by kernel_rfl) rfl rfl (YJ_move rfl) ?_
      refine AJ_y 27 rfl (by kernel_rfl) (by kernel_rfl) rfl rfl (YJ_move rfl) ?_
      refine AJ_y 28 rfl (by kernel_rfl) (by kernel_rfl) rfl rfl (YJ_ixFact (n' := M9.tris.length) rfl rfl elt_54 m6 (by decide) (by omega) (by omega) (by omega)) ?_
      refine AJ_y 29 rfl (by kernel_rfl) (by kernel_rfl) rfl rfl (YJ_fieldAddr rfl fld_37_2) ?_
      refine AJ_y 30 rfl (by kernel_rfl) (by kernel_rfl) rfl rfl (YJ_ixArrP rfl rfl arrt_35 (by omega) (by omega)) ?_
      refine AJ_y 31 rfl (by kernel_rfl) (by kernel_rfl) rfl rfl (YJ_loadFactP (A := hm.T) (j := y2.1 * 9 + (6 + j2)) rfl (by rw [Addr.add_add, Addr.add_add]; congr 1; omega) tyi_4 m6 (trCells_f ht2 hj2)) ?_
      refine AJ_y 32 rfl (by kernel_rfl) (by kernel_rfl) rfl rfl (YJ_fieldOwn rfl fld_95_2 rfl) ?_
      refine AJ_y 33 rfl (by kernel_rfl) (by kernel_rfl) rfl rfl (YJ_loadL rfl tyi_4 m0 rfl) ?_
      refine AJ_y 34 rfl (by kernel_rfl) (by kernel_rfl) rfl rfl (YJ_neb rfl rfl ubool_4) ?_
      refine AJ_val (v := .bool false) (by rw [hf2]; simp) ?_
      refine AJ_y 35 rfl (by kernel_rfl) (by kernel_rfl) rfl rfl (YJ_pickF rfl rfl) ?_
      refine AJ_y 36 rfl (by kernel_rfl) (by kernel_rfl) rfl rfl (YJ_move rfl) ?_
      refine AJ_bool (c := false) rfl ?_
      refine AJ_y 37 rfl (by kernel_rfl) (by kernel_rfl) rfl rfl (YJ_fieldOwn rfl fld_95_3 rfl) ?_
      refine AJ_y 38 rfl (by kernel_rfl) (by kernel_rfl) rfl rfl (YJ_loadL rfl tyi_4 m0 rfl) ?_
      refine AJ_y 39 rfl (by kernel_rfl) (by kernel_rfl) rfl rfl (YJ_move rfl) ?_
      refine AJ_y 40 rfl (by kernel_rfl) (by kernel_rfl) rfl rfl (YJ_move rfl) ?_
      refine AJ_call0 41 rfl (by kernel_rfl) rfl rfl rfl rfl rfl (real_c (h := hm) (pts := M9.pts) (tris := M9.tris)) (fun r h => .tail _ (.tail _ (.tail _ (.tail _ (frz_mesh r h))))) ?_
      refine AJ_y 42 rfl (by kernel_rfl) (by kernel_rfl) rfl rfl (YJ_not rfl) ?_
      refine AJ_y 43 rfl (by kernel_rfl) (by kernel_rfl) rfl rfl (YJ_move rfl) ?_
      refine AJ_boolC (fun h199 => ?_) (fun h199 => ?_)
      ·simp only [decide_eq_false_iff_not, Bool.not_eq_true'] at h199
       refine AJ_skip 44 rfl (by kernel_rfl) (by kernel_rfl) rfl rfl ?_
       refine AJ_skip 45 rfl (by kernel_rfl) (by kernel_rfl) rfl rfl ?_
       refine AJ_skip 46 rfl (by kernel_rfl) (by kernel_rfl) rfl rfl ?_
       refine AJ_skip 47 rfl (by kernel_rfl) (by kernel_rfl) rfl rfl ?_
       refine AJ_y 48 rfl (by kernel_rfl) (by kernel_rfl) rfl rfl (YJ_pickT rfl rfl) ?_
       refine AJ_y 49 rfl (by kernel_rfl) (by kernel_rfl) rfl rfl (YJ_neb rfl rfl ubool_4) ?_
       refine AJ_val (v := .bool false) (by rw [hhl, decide_eq_false h199]; rfl) ?_
       refine AJ_y 50 rfl (by kernel_rfl) (by kernel_rfl) rfl rfl (YJ_pickF rfl rfl) ?_
       refine AJ_done (by kernel_rfl) ?_
       refine QJ_then ?_
       refine CJ_condF rfl ?_
       refine CJ_skip ?_
       refine QJ_then ?_
       refine CJ_seq ?_
       refine CJ_reg ?_
       refine LJ_y rfl rfl (YJ_fieldOwn rfl fld_95_3 rfl) ?_
       refine LJ_y rfl rfl (YJ_loadL rfl tyi_4 m0 rfl) ?_
       refine LJ_nil ?_
       refine QJ_then ?_
       refine CJ_cond rfl (fun h208 => ?_) (fun h208 => ?_)
       ·skip
        refine CJ_reg ?_
        refine LJ_y rfl rfl (YJ_move rfl) ?_
        refine LJ_y rfl rfl (YJ_bin rfl rfl (iop_add (by omega))) ?_
        refine LJ_y rfl rfl (YJ_assign rfl) ?_
        refine LJ_nil ?_
        refine QJ_in_normal ?_
        refine QJ_then ?_
        refine CJ_reg ?_
        refine LJ_y rfl rfl (YJ_bin rfl rfl (iop_add (by omega))) ?_
        refine LJ_y rfl rfl (YJ_move rfl) ?_
        refine LJ_nil ?_
        refine QJ_roundF (F := fun (i : Nat × Nat) => ⟨[(7, .pointer (some ⟨B9, 0, none⟩)), (10, .pointer (some ⟨b3, 0, none⟩)), (12, .slice A5 l5.length c5), (13, .int .i64 (i.2 : Nat)), (87, .slice A9 xs.length c9), (88, .int .i64 xs.length), (89, .int .i64 (i.1 : Nat))], [], []⟩) (I := fun (i : Nat × Nat) => i.1 ≤ xs.length ∧ i.2 = ((xs.take i.1).filter (·.2.2.2)).length) (m := fun (i : Nat × Nat) => xs.length - i.1) (i := (k, bd)) ((k + 1, bd + 1)) (μd := [_]) ⟨by omega, by dsimp only; rw [fil_T he9 h208, ← hbd]⟩ (by dsimp only; omega) (And.intro rfl (And.intro rfl (And.intro rfl (And.intro rfl (And.intro rfl (And.intro rfl (And.intro rfl (trivial)))))))) (permI [1, 1, 1, 1, 1] rfl) (fun _ h => nomatch h) (fun _ h => h)
       ·skip
        refine CJ_skip ?_
        refine QJ_in_normal ?_
        refine QJ_then ?_
        refine CJ_reg ?_
        refine LJ_y rfl rfl (YJ_bin rfl rfl (iop_add (by omega))) ?_
        refine LJ_y rfl rfl (YJ_move rfl) ?_
        refine LJ_nil ?_
        refine QJ_roundF (F := fun (i : Nat × Nat) => ⟨[(7, .pointer (some ⟨B9, 0, none⟩)), (10, .pointer (some ⟨b3, 0, none⟩)), (12, .slice A5 l5.length c5), (13, .int .i64 (i.2 : Nat)), (87, .slice A9 xs.length c9), (88, .int .i64 xs.length), (89, .int .i64 (i.1 : Nat))], [], []⟩) (I := fun (i : Nat × Nat) => i.1 ≤ xs.length ∧ i.2 = ((xs.take i.1).filter (·.2.2.2)).length) (m := fun (i : Nat × Nat) => xs.length - i.1) (i := (k, bd)) ((k + 1, bd)) (μd := [_]) ⟨by omega, by dsimp only; rw [fil_F he9 h208]; exact hbd⟩ (by dsimp only; omega) (And.intro rfl (And.intro rfl (And.intro rfl (And.intro rfl (And.intro rfl (And.intro rfl (And.intro rfl (trivial)))))))) (permI [1, 1, 1, 1, 1] rfl) (fun _ h => nomatch h) (fun _ h => h)
      ·simp only [decide_eq_true_eq, Bool.not_eq_false'] at h199
       refine AJ_y 44 rfl (by kernel_rfl) (by kernel_rfl) rfl rfl (YJ_move rfl) ?_
       refine AJ_y 45 rfl (by kernel_rfl) (by kernel_rfl) rfl rfl (YJ_move rfl) ?_
       refine AJ_call0 46 rfl (by kernel_rfl) rfl rfl rfl rfl rfl (real_c (h := hm) (pts := M9.pts) (tris := M9.tris)) (fun r h => .tail _ (.tail _ (.tail _ (.tail _ (frz_mesh r h))))) ?_
       refine AJ_y 47 rfl (by kernel_rfl) (by kernel_rfl) rfl rfl (YJ_not rfl) ?_
       refine AJ_y 48 rfl (by kernel_rfl) (by kernel_rfl) rfl rfl (YJ_pickF rfl rfl) ?_
       refine AJ_y 49 rfl (by kernel_rfl) (by kernel_rfl) rfl rfl (YJ_neb rfl rfl ubool_4) ?_
       refine AJ_val (v := .bool false) (by rw [hhl, decide_eq_true h199]; simp) ?_
       refine AJ_y 50 rfl (by kernel_rfl) (by kernel_rfl) rfl rfl (YJ_pickF rfl rfl) ?_
       refine AJ_done (by kernel_rfl) ?_
       refine QJ_then ?_
       refine CJ_condF rfl ?_
       refine CJ_skip ?_
       refine QJ_then ?_
       refine CJ_seq ?_
       refine CJ_reg ?_
       refine LJ_y rfl rfl (YJ_fieldOwn rfl fld_95_3 rfl) ?_
       refine LJ_y rfl rfl (YJ_loadL rfl tyi_4 m0 rfl) ?_
       refine LJ_nil ?_
       refine QJ_then ?_
       refine CJ_cond rfl (fun h208 => ?_) (fun h208 => ?_)
       ·skip
        refine CJ_reg ?_
        refine LJ_y rfl rfl (YJ_move rfl) ?_
        refine LJ_y rfl rfl (YJ_bin rfl rfl (iop_add (by omega))) ?_
        refine LJ_y rfl rfl (YJ_assign rfl) ?_
        refine LJ_nil ?_
        refine QJ_in_normal ?_
        refine QJ_then ?_
        refine CJ_reg ?_
        refine LJ_y rfl rfl (YJ_bin rfl rfl (iop_add (by omega))) ?_
        refine LJ_y rfl rfl (YJ_move rfl) ?_
        refine LJ_nil ?_
        refine QJ_roundF (F := fun (i : Nat × Nat) => ⟨[(7, .pointer (some ⟨B9, 0, none⟩)), (10, .pointer (some ⟨b3, 0, none⟩)), (12, .slice A5 l5.length c5), (13, .int .i64 (i.2 : Nat)), (87, .slice A9 xs.length c9), (88, .int .i64 xs.length), (89, .int .i64 (i.1 : Nat))], [], []⟩) (I := fun (i : Nat × Nat) => i.1 ≤ xs.length ∧ i.2 = ((xs.take i.1).filter (·.2.2.2)).length) (m := fun (i : Nat × Nat) => xs.length - i.1) (i := (k, bd)) ((k + 1, bd + 1)) (μd := [_]) ⟨by omega, by dsimp only; rw [fil_T he9 h208, ← hbd]⟩ (by dsimp only; omega) (And.intro rfl (And.intro rfl (And.intro rfl (And.intro rfl (And.intro rfl (And.intro rfl (And.intro rfl (trivial)))))))) (permI [1, 1, 1, 1, 1] rfl) (fun _ h => nomatch h) (fun _ h => h)
       ·skip
        refine CJ_skip ?_
        refine QJ_in_normal ?_
        refine QJ_then ?_
        refine CJ_reg ?_
        refine LJ_y rfl rfl (YJ_bin rfl rfl (iop_add (by omega))) ?_
        refine LJ_y rfl rfl (YJ_move rfl) ?_
        refine LJ_nil ?_
        refine QJ_roundF (F := fun (i : Nat × Nat) => ⟨[(7, .pointer (some ⟨B9, 0, none⟩)), (10, .pointer (some ⟨b3, 0, none⟩)), (12, .slice A5 l5.length c5), (13, .int .i64 (i.2 : Nat)), (87, .slice A9 xs.length c9), (88, .int .i64 xs.length), (89, .int .i64 (i.1 : Nat))], [], []⟩) (I := fun (i : Nat × Nat) => i.1 ≤ xs.length ∧ i.2 = ((xs.take i.1).filter (·.2.2.2)).length) (m := fun (i : Nat × Nat) => xs.length - i.1) (i := (k, bd)) ((k + 1, bd)) (μd := [_]) ⟨by omega, by dsimp only; rw [fil_F he9 h208]; exact hbd⟩ (by dsimp only; omega) (And.intro rfl (And.intro rfl (And.intro rfl (And.intro rfl (And.intro rfl (And.intro rfl (And.intro rfl (trivial)))))))) (permI [1, 1, 1, 1, 1] rfl) (fun _ h => nomatch h) (fun _ h => h)
    ·simp only [decide_eq_false_iff_not] at h102
     refine AJ_skip 9 rfl (by kernel_rfl) (by kernel_rfl) rfl rfl ?_
     refine AJ_skip 10 rfl (by kernel_rfl) (by kernel_rfl) rfl rfl ?_
     refine AJ_skip 11 rfl (by kernel_rfl) (by kernel_rfl) rfl rfl ?_
     refine AJ_skip 12 rfl (by kernel_rfl) (by kernel_rfl) rfl rfl ?_
     refine AJ_skip 13 rfl (by kernel_rfl) (by kernel_rfl) rfl rfl ?_
     refine AJ_skip 14 rfl (by kernel_rfl) (by kernel_rfl) rfl rfl ?_
     refine AJ_skip 15 rfl (by kernel_rfl) (by kernel_rfl) rfl rfl ?_
     refine AJ_skip 16 rfl (by kernel_rfl) (by kernel_rfl) rfl rfl ?_
     refine AJ_skip 17 rfl (by kernel_rfl) (by kernel_rfl) rfl rfl ?_
     refine AJ_skip 18 rfl (by kernel_rfl) (by kernel_rfl) rfl rfl ?_
     refine AJ_skip 19 rfl (by kernel_rfl) (by kernel_rfl) rfl rfl ?_
     refine AJ_skip 20 rfl (by kernel_rfl) (by kernel_rfl) rfl rfl ?_
     refine AJ_skip 21 rfl (by kernel_rfl) (by kernel_rfl) rfl rfl ?_
     refine AJ_skip 22 rfl (by kernel_rfl) (by kernel_rfl) rfl rfl ?_
     refine AJ_skip 23 rfl (by kernel_rfl) (by kernel_rfl) rfl rfl ?_
     refine AJ_skip 24 rfl (by kernel_rfl) (by kernel_rfl) rfl rfl ?_
     refine AJ_skip 25 rfl (by kernel_rfl) (by kernel_rfl) rfl rfl ?_
     refine AJ_skip 26 rfl (by kernel_rfl) (by kernel_rfl) rfl rfl ?_
     refine AJ_skip 27 rfl (by kernel_rfl) (by kernel_rfl) rfl rfl ?_
     refine AJ_skip 28 rfl (by kernel_rfl) (by kernel_rfl) rfl rfl ?_
     refine AJ_skip 29 rfl (by kernel_rfl) (by kernel_rfl) rfl rfl ?_
     refine AJ_skip 30 rfl (by kernel_rfl) (by kernel_rfl) rfl rfl ?_
     refine AJ_skip 31 rfl (by kernel_rfl) (by kernel_rfl) rfl rfl ?_
     refine AJ_skip 32 rfl (by kernel_rfl) (by kernel_rfl) rfl rfl ?_
     refine AJ_skip 33 rfl (by kernel_rfl) (by kernel_rfl) rfl rfl ?_
     refine AJ_skip 34 rfl (by kernel_rfl) (by kernel_rfl) rfl rfl ?_
     refine AJ_skip 35 rfl (by kernel_rfl) (by kernel_rfl) rfl rfl ?_
     refine AJ_skip 36 rfl (by kernel_rfl) (by kernel_rfl) rfl rfl ?_
     refine AJ_skip 37 rfl (by kernel_rfl) (by kernel_rfl) rfl rfl ?_
     refine AJ_skip 38 rfl (by kernel_rfl) (by kernel_rfl) rfl rfl ?_
     refine AJ_skip 39 rfl (by kernel_rfl) (by kernel_rfl) rfl rfl ?_
     refine AJ_y 40 rfl (by kernel_rfl) (by kernel_rfl) rfl rfl (YJ_pickF rfl rfl) ?_
     refine AJ_y 41 rfl (by kernel_rfl) (by kernel_rfl) rfl rfl (YJ_pickF rfl rfl) ?_
     refine AJ_done (by kernel_rfl) ?_
     refine QJ_then ?_
     refine CJ_condF rfl ?_
     refine CJ_skip ?_
     refine QJ_then ?_
     refine CJ_seq ?_
     refine CJ_reg ?_
     refine LJ_y rfl rfl (YJ_move rfl) ?_
     refine LJ_y rfl rfl (YJ_fieldOwn rfl fld_95_0 rfl) ?_
     refine LJ_y rfl rfl (YJ_loadL rfl tyi_3 m0 rfl) ?_
     refine LJ_y rfl rfl (YJ_fieldOwn rfl fld_95_1 rfl) ?_
     refine LJ_y rfl rfl (YJ_loadL rfl tyi_3 m0 rfl) ?_
     refine LJ_callX rfl rfl rfl rfl rfl (find9_c (h := hm) (pts := M9.pts) (a := e9.1) (b := e9.2.1) hlen hmA hal (fun h0 _ => by have := hG.arh (p := (max e9.1 e9.2.1).toNat) (by omega); rw [Int.toNat_of_nonneg h0] at this; exact this)) (fun r h => .tail _ (.tail _ (.tail _ (.tail _ (frz_at r h))))) ?_
     rintro ⟨r1, r2, r3⟩ hr
     have he9 := hG.fnd hy ht hj hk1 hr
     try dsimp only at he9
     rw [Prod.mk.injEq, Prod.mk.injEq] at he9
     obtain ⟨rfl, rfl, rfl⟩ := he9
     refine LJ_y rfl rfl (YJ_move rfl) ?_
     refine LJ_y rfl rfl (YJ_extract rfl rfl) ?_
     refine LJ_val (v := .int .i64 (y.1 : Nat)) (rfl) ?_
     refine LJ_y rfl rfl (YJ_extract rfl rfl) ?_
     refine LJ_val (v := .int .i64 (j : Nat)) (rfl) ?_
     refine LJ_y rfl rfl (YJ_extract rfl rfl) ?_
     refine LJ_val (v := .bool true) (rfl) ?_
     refine LJ_y rfl rfl (YJ_assign rfl) ?_
     refine LJ_y rfl rfl (YJ_assign rfl) ?_
     refine LJ_y rfl rfl (YJ_assign rfl) ?_
     refine LJ_nil ?_
     refine QJ_then ?_
     refine CJ_seq ?_
     refine CJ_reg ?_
     refine LJ_y rfl rfl (YJ_move rfl) ?_
     refine LJ_y rfl rfl (YJ_fieldOwn rfl fld_95_1 rfl) ?_
     refine LJ_y rfl rfl (YJ_loadL rfl tyi_3 m0 rfl) ?_
     refine LJ_y rfl rfl (YJ_fieldOwn rfl fld_95_0 rfl) ?_
     refine LJ_y rfl rfl (YJ_loadL rfl tyi_3 m0 rfl) ?_
     refine LJ_callX rfl rfl rfl rfl rfl (find9_c (h := hm) (pts := M9.pts) (a := e9.2.1) (b := e9.1) hlen hmA hal (fun h0 _ => by have := hG.arh (p := (max e9.2.1 e9.1).toNat) (by omega); rw [Int.toNat_of_nonneg h0] at this; exact this)) (fun r h => .tail _ (.tail _ (.tail _ (.tail _ (frz_at r h))))) ?_
     rintro ⟨r1, r2, r3⟩ hr
     have he9 := hG.fnd hy2 ht2 hj2 hk2 hr
     try dsimp only at he9
     rw [Prod.mk.injEq, Prod.mk.injEq] at he9
     obtain ⟨rfl, rfl, rfl⟩ := he9
     refine LJ_y rfl rfl (YJ_move rfl) ?_
     refine LJ_y rfl rfl (YJ_extract rfl rfl) ?_
     refine LJ_val (v := .int .i64 (y2.1 : Nat)) (rfl) ?_
     refine LJ_y rfl rfl (YJ_extract rfl rfl) ?_
     refine LJ_val (v := .int .i64 (j2 : Nat)) (rfl) ?_
     refine LJ_y rfl rfl (YJ_extract rfl rfl) ?_
     refine LJ_val (v := .bool true) (rfl) ?_
     refine LJ_y rfl rfl (YJ_assign rfl) ?_
     refine LJ_y rfl rfl (YJ_assign rfl) ?_
     refine LJ_y rfl rfl (YJ_assign rfl) ?_
     refine LJ_nil ?_
     refine QJ_then ?_
     refine CJ_seq ?_
     refine CJ_seq ?_
     refine CJ_regD mix (by kernel_rfl) (fun _ _ _ _ _ h => h) _ _ (fun _ h => h) (fun _ h => h) ?_
     refine AJ_y 0 rfl (by kernel_rfl) (by kernel_rfl) rfl rfl (YJ_move rfl) ?_
     refine AJ_y 1 rfl (by kernel_rfl) (by kernel_rfl) rfl rfl (YJ_not rfl) ?_
     refine AJ_y 2 rfl (by kernel_rfl) (by kernel_rfl) rfl rfl (YJ_move rfl) ?_
     refine AJ_bool (c := false) rfl ?_
     refine AJ_y 3 rfl (by kernel_rfl) (by kernel_rfl) rfl rfl (YJ_move rfl) ?_
     refine AJ_y 4 rfl (by kernel_rfl) (by kernel_rfl) rfl rfl (YJ_not rfl) ?_
     refine AJ_y 5 rfl (by kernel_rfl) (by kernel_rfl) rfl rfl (YJ_pickF rfl rfl) ?_
     refine AJ_y 6 rfl (by kernel_rfl) (by kernel_rfl) rfl rfl (YJ_move rfl) ?_
     refine AJ_bool (c := false) rfl ?_
     refine AJ_y 7 rfl (by kernel_rfl) (by kernel_rfl) rfl rfl (YJ_move rfl) ?_
     refine AJ_y 8 rfl (by kernel_rfl) (by kernel_rfl) rfl rfl (YJ_nilCheck rfl) ?_
     refine AJ_y 9 rfl (by kernel_rfl) (by kernel_rfl) rfl rfl (YJ_fieldOwn rfl fld_57_1 rfl) ?_
     refine AJ_y 10 rfl (by kernel_rfl) (by kernel_rfl) rfl rfl (YJ_loadFactP (A := some ⟨B9, 0, none⟩) (j := 1) rfl rfl tyi_54 m4 rfl) ?_
     refine AJ_y 11 rfl (by kernel_rfl) (by kernel_rfl) rfl rfl (YJ_move rfl) ?_
     refine AJ_y 12 rfl (by kernel_rfl) (by kernel_rfl) rfl rfl (YJ_move rfl) ?_
     refine AJ_y 13 rfl (by kernel_rfl) (by kernel_rfl) rfl rfl (YJ_ixFact (n' := M9.tris.length) rfl rfl elt_54 m6 (by decide) (by omega) (by omega) (by omega)) ?_
     refine AJ_y 14 rfl (by kernel_rfl) (by kernel_rfl) rfl rfl (YJ_fieldAddr rfl fld_37_2) ?_
     refine AJ_y 15 rfl (by kernel_rfl) (by kernel_rfl) rfl rfl (YJ_ixArrP rfl rfl arrt_35 (by omega) (by omega)) ?_
     refine AJ_y 16 rfl (by kernel_rfl) (by kernel_rfl) rfl rfl (YJ_loadFactP (A := hm.T) (j := y.1 * 9 + (6 + j)) rfl (by rw [Addr.add_add, Addr.add_add]; congr 1; omega) tyi_4 m6 (trCells_f ht hj)) ?_
     refine AJ_y 17 rfl (by kernel_rfl) (by kernel_rfl) rfl rfl (YJ_fieldOwn rfl fld_95_2 rfl) ?_
     refine AJ_y 18 rfl (by kernel_rfl) (by kernel_rfl) rfl rfl (YJ_loadL rfl tyi_4 m0 rfl) ?_
     refine AJ_y 19 rfl (by kernel_rfl) (by kernel_rfl) rfl rfl (YJ_neb rfl rfl ubool_4) ?_
     refine AJ_val (v := .bool false) (by rw [hf1]; simp) ?_
     refine AJ_y 20 rfl (by kernel_rfl) (by kernel_rfl) rfl rfl (YJ_pickF rfl rfl) ?_
     refine AJ_y 21 rfl (by kernel_rfl) (by kernel_rfl) rfl rfl (YJ_move rfl) ?_
     refine AJ_bool (c := false) rfl ?_
     refine AJ_y 22 rfl (by kernel_rfl) (by kernel_rfl) rfl rfl (YJ_move rfl) ?_
     refine AJ_y 23 rfl (by kernel_rfl) (by kernel_rfl) rfl rfl (YJ_nilCheck rfl) ?_
     refine AJ_y 24 rfl (by kernel_rfl) (by kernel_rfl) rfl rfl (YJ_fieldOwn rfl fld_57_1 rfl) ?_
     refine AJ_y 25 rfl (by kernel_rfl) (by kernel_rfl) rfl rfl (YJ_loadFactP (A := some ⟨B9, 0, none⟩) (j := 1) rfl rfl tyi_54 m4 rfl) ?_
     refine AJ_y 26 rfl (by kernel_rfl) (by kernel_rfl) rfl rfl (YJ_move rfl) ?_
     refine AJ_y 27 rfl (by kernel_rfl) (by kernel_rfl) rfl rfl (YJ_move rfl) ?_
     refine AJ_y 28 rfl (by kernel_rfl) (by kernel_rfl) rfl rfl (YJ_ixFact (n' := M9.tris.length) rfl rfl elt_54 m6 (by decide) (by omega) (by omega) (by omega)) ?_
     refine AJ_y 29 rfl (by kernel_rfl) (by kernel_rfl) rfl rfl (YJ_fieldAddr rfl fld_37_2) ?_
     refine AJ_y 30 rfl (by kernel_rfl) (by kernel_rfl) rfl rfl (YJ_ixArrP rfl rfl arrt_35 (by omega) (by omega)) ?_
     refine AJ_y 31 rfl (by kernel_rfl) (by kernel_rfl) rfl rfl (YJ_loadFactP (A := hm.T) (j := y2.1 * 9 + (6 + j2)) rfl (by rw [Addr.add_add, Addr.add_add]; congr 1; omega) tyi_4 m6 (trCells_f ht2 hj2)) ?_
     refine AJ_y 32 rfl (by kernel_rfl) (by kernel_rfl) rfl rfl (YJ_fieldOwn rfl fld_95_2 rfl) ?_
     refine AJ_y 33 rfl (by kernel_rfl) (by kernel_rfl) rfl rfl (YJ_loadL rfl tyi_4 m0 rfl) ?_
     refine AJ_y 34 rfl (by kernel_rfl) (by kernel_rfl) rfl rfl (YJ_neb rfl rfl ubool_4) ?_
     refine AJ_val (v := .bool false) (by rw [hf2]; simp) ?_
     refine AJ_y 35 rfl (by kernel_rfl) (by kernel_rfl) rfl rfl (YJ_pickF rfl rfl) ?_
     refine AJ_y 36 rfl (by kernel_rfl) (by kernel_rfl) rfl rfl (YJ_move rfl) ?_
     refine AJ_bool (c := false) rfl ?_
     refine AJ_y 37 rfl (by kernel_rfl) (by kernel_rfl) rfl rfl (YJ_fieldOwn rfl fld_95_3 rfl) ?_
     refine AJ_y 38 rfl (by kernel_rfl) (by kernel_rfl) rfl rfl (YJ_loadL rfl tyi_4 m0 rfl) ?_
     refine AJ_y 39 rfl (by kernel_rfl) (by kernel_rfl) rfl rfl (YJ_move rfl) ?_
     refine AJ_y 40 rfl (by kernel_rfl) (by kernel_rfl) rfl rfl (YJ_move rfl) ?_
     refine AJ_call0 41 rfl (by kernel_rfl) rfl rfl rfl rfl rfl (real_c (h := hm) (pts := M9.pts) (tris := M9.tris)) (fun r h => .tail _ (.tail _ (.tail _ (.tail _ (frz_mesh r h))))) ?_
     refine AJ_y 42 rfl (by kernel_rfl) (by kernel_rfl) rfl rfl (YJ_not rfl) ?_
     refine AJ_y 43 rfl (by kernel_rfl) (by kernel_rfl) rfl rfl (YJ_move rfl) ?_
     refine AJ_boolC (fun h199 => ?_) (fun h199 => ?_)
     ·simp only [decide_eq_false_iff_not, Bool.not_eq_true'] at h199
      refine AJ_skip 44 rfl (by kernel_rfl) (by kernel_rfl) rfl rfl ?_
      refine AJ_skip 45 rfl (by kernel_rfl) (by kernel_rfl) rfl rfl ?_
      refine AJ_skip 46 rfl (by kernel_rfl) (by kernel_rfl) rfl rfl ?_
      refine AJ_skip 47 rfl (by kernel_rfl) (by kernel_rfl) rfl rfl ?_
      refine AJ_y 48 rfl (by kernel_rfl) (by kernel_rfl) rfl rfl (YJ_pickT rfl rfl) ?_
      refine AJ_y 49 rfl (by kernel_rfl) (by kernel_rfl) rfl rfl (YJ_neb rfl rfl ubool_4) ?_
      refine AJ_val (v := .bool false) (by rw [hhl, decide_eq_false h199]; rfl) ?_
      refine AJ_y 50 rfl (by kernel_rfl) (by kernel_rfl) rfl rfl (YJ_pickF rfl rfl) ?_
      refine AJ_done (by kernel_rfl) ?_
      refine QJ_then ?_
      refine CJ_condF rfl ?_
      refine CJ_skip ?_
      refine QJ_then ?_
      refine CJ_seq ?_
      refine CJ_reg ?_
      refine LJ_y rfl rfl (YJ_fieldOwn rfl fld_95_3 rfl) ?_
      refine LJ_y rfl rfl (YJ_loadL rfl tyi_4 m0 rfl) ?_
      refine LJ_nil ?_
      refine QJ_then ?_
      refine CJ_cond rfl (fun h208 => ?_) (fun h208 => ?_)
      ·skip
       refine CJ_reg ?_
       refine LJ_y rfl rfl (YJ_move rfl) ?_
       refine LJ_y rfl rfl (YJ_bin rfl rfl (iop_add (by omega))) ?_
       refine LJ_y rfl rfl (YJ_assign rfl) ?_
       refine LJ_nil ?_
       refine QJ_in_normal ?_
       refine QJ_then ?_
       refine CJ_reg ?_
       refine LJ_y rfl rfl (YJ_bin rfl rfl (iop_add (by omega))) ?_
       refine LJ_y rfl rfl (YJ_move rfl) ?_
       refine LJ_nil ?_
       refine QJ_roundF (F := fun (i : Nat × Nat) => ⟨[(7, .pointer (some ⟨B9, 0, none⟩)), (10, .pointer (some ⟨b3, 0, none⟩)), (12, .slice A5 l5.length c5), (13, .int .i64 (i.2 : Nat)), (87, .slice A9 xs.length c9), (88, .int .i64 xs.length), (89, .int .i64 (i.1 : Nat))], [], []⟩) (I := fun (i : Nat × Nat) => i.1 ≤ xs.length ∧ i.2 = ((xs.take i.1).filter (·.2.2.2)).length) (m := fun (i : Nat × Nat) => xs.length - i.1) (i := (k, bd)) ((k + 1, bd + 1)) (μd := [_]) ⟨by omega, by dsimp only; rw [fil_T he9 h208, ← hbd]⟩ (by dsimp only; omega) (And.intro rfl (And.intro rfl (And.intro rfl (And.intro rfl (And.intro rfl (And.intro rfl (And.intro rfl (trivial)))))))) (permI [1, 1, 1, 1, 1] rfl) (fun _ h => nomatch h) (fun _ h => h)
      ·skip
       refine CJ_skip ?_
       refine QJ_in_normal ?_
       refine QJ_then ?_
       refine CJ_reg ?_
       refine LJ_y rfl rfl (YJ_bin rfl rfl (iop_add (by omega))) ?_
       refine LJ_y rfl rfl (YJ_move rfl) ?_
       refine LJ_nil ?_
       refine QJ_roundF (F := fun (i : Nat × Nat) => ⟨[(7, .pointer (some ⟨B9, 0, none⟩)), (10, .pointer (some ⟨b3, 0, none⟩)), (12, .slice A5 l5.length c5), (13, .int .i64 (i.2 : Nat)), (87, .slice A9 xs.length c9), (88, .int .i64 xs.length), (89, .int .i64 (i.1 : Nat))], [], []⟩) (I := fun (i : Nat × Nat) => i.1 ≤ xs.length ∧ i.2 = ((xs.take i.1).filter (·.2.2.2)).length) (m := fun (i : Nat × Nat) => xs.length - i.1) (i := (k, bd)) ((k + 1, bd)) (μd := [_]) ⟨by omega, by dsimp only; rw [fil_F he9 h208]; exact hbd⟩ (by dsimp only; omega) (And.intro rfl (And.intro rfl (And.intro rfl (And.intro rfl (And.intro rfl (And.intro rfl (And.intro rfl (trivial)))))))) (permI [1, 1, 1, 1, 1] rfl) (fun _ h => nomatch h) (fun _ h => h)
     ·simp only [decide_eq_true_eq, Bool.not_eq_false'] at h199
      refine AJ_y 44 rfl (by kernel_rfl) (by kernel_rfl) rfl rfl (YJ_move rfl) ?_
      refine AJ_y 45 rfl (by kernel_rfl) (by kernel_rfl) rfl rfl (YJ_move rfl) ?_
      refine AJ_call0 46 rfl (by kernel_rfl) rfl rfl rfl rfl rfl (real_c (h := hm) (pts := M9.pts) (tris := M9.tris)) (fun r h => .tail _ (.tail _ (.tail _ (.tail _ (frz_mesh r h))))) ?_
      refine AJ_y 47 rfl (by kernel_rfl) (by kernel_rfl) rfl rfl (YJ_not rfl) ?_
      refine AJ_y 48 rfl (by kernel_rfl) (by kernel_rfl) rfl rfl (YJ_pickF rfl rfl) ?_
      refine AJ_y 49 rfl (by kernel_rfl) (by kernel_rfl) rfl rfl (YJ_neb rfl rfl ubool_4) ?_
      refine AJ_val (v := .bool false) (by rw [hhl, decide_eq_true h199]; simp) ?_
      refine AJ_y 50 rfl (by kernel_rfl) (by kernel_rfl) rfl rfl (YJ_pickF rfl rfl) ?_
      refine AJ_done (by kernel_rfl) ?_
      refine QJ_then ?_
      refine CJ_condF rfl ?_
      refine CJ_skip ?_
      refine QJ_then ?_
      refine CJ_seq ?_
      refine CJ_reg ?_
      refine LJ_y rfl rfl (YJ_fieldOwn rfl fld_95_3 rfl) ?_
      refine LJ_y rfl rfl (YJ_loadL rfl tyi_4 m0 rfl) ?_
      refine LJ_nil ?_
      refine QJ_then ?_
      refine CJ_cond rfl (fun h208 => ?_) (fun h208 => ?_)
      ·skip
       refine CJ_reg ?_
       refine LJ_y rfl rfl (YJ_move rfl) ?_
       refine LJ_y rfl rfl (YJ_bin rfl rfl (iop_add (by omega))) ?_
       refine LJ_y rfl rfl (YJ_assign rfl) ?_
       refine LJ_nil ?_
       refine QJ_in_normal ?_
       refine QJ_then ?_
       refine CJ_reg ?_
       refine LJ_y rfl rfl (YJ_bin rfl rfl (iop_add (by omega))) ?_
       refine LJ_y rfl rfl (YJ_move rfl) ?_
       refine LJ_nil ?_
       refine QJ_roundF (F := fun (i : Nat × Nat) => ⟨[(7, .pointer (some ⟨B9, 0, none⟩)), (10, .pointer (some ⟨b3, 0, none⟩)), (12, .slice A5 l5.length c5), (13, .int .i64 (i.2 : Nat)), (87, .slice A9 xs.length c9), (88, .int .i64 xs.length), (89, .int .i64 (i.1 : Nat))], [], []⟩) (I := fun (i : Nat × Nat) => i.1 ≤ xs.length ∧ i.2 = ((xs.take i.1).filter (·.2.2.2)).length) (m := fun (i : Nat × Nat) => xs.length - i.1) (i := (k, bd)) ((k + 1, bd + 1)) (μd := [_]) ⟨by omega, by dsimp only; rw [fil_T he9 h208, ← hbd]⟩ (by dsimp only; omega) (And.intro rfl (And.intro rfl (And.intro rfl (And.intro rfl (And.intro rfl (And.intro rfl (And.intro rfl (trivial)))))))) (permI [1, 1, 1, 1, 1] rfl) (fun _ h => nomatch h) (fun _ h => h)
      ·skip
       refine CJ_skip ?_
       refine QJ_in_normal ?_
       refine QJ_then ?_
       refine CJ_reg ?_
       refine LJ_y rfl rfl (YJ_bin rfl rfl (iop_add (by omega))) ?_
       refine LJ_y rfl rfl (YJ_move rfl) ?_
       refine LJ_nil ?_
       refine QJ_roundF (F := fun (i : Nat × Nat) => ⟨[(7, .pointer (some ⟨B9, 0, none⟩)), (10, .pointer (some ⟨b3, 0, none⟩)), (12, .slice A5 l5.length c5), (13, .int .i64 (i.2 : Nat)), (87, .slice A9 xs.length c9), (88, .int .i64 xs.length), (89, .int .i64 (i.1 : Nat))], [], []⟩) (I := fun (i : Nat × Nat) => i.1 ≤ xs.length ∧ i.2 = ((xs.take i.1).filter (·.2.2.2)).length) (m := fun (i : Nat × Nat) => xs.length - i.1) (i := (k, bd)) ((k + 1, bd)) (μd := [_]) ⟨by omega, by dsimp only; rw [fil_F he9 h208]; exact hbd⟩ (by dsimp only; omega) (And.intro rfl (And.intro rfl (And.intro rfl (And.intro rfl (And.intro rfl (And.intro rfl (And.intro rfl (trivial)))))))) (permI [1, 1, 1, 1, 1] rfl) (fun _ h => nomatch h) (fun _ h => h)
   ·simp only [decide_eq_false_iff_not] at h90
    have hk9 : k = xs.length := by omega
    subst hk9
    rw [List.take_length] at hbd
    have hbl := (hxp.filter (·.2.2.2)).length_eq
    refine CJ_exit ?_
    refine QJ_then_exit ?_
    refine QJ_then_exit ?_
    refine QJ_in_exit ?_
    refine QJ_then ?_
    refine CJ_seq ?_
    refine CJ_seq ?_
    refine CJ_reg ?_
    refine LJ_y rfl rfl (YJ_move rfl) ?_
    refine LJ_y rfl rfl (YJ_len rfl ulen_55 rfl) ?_
    refine LJ_y rfl rfl (YJ_move rfl) ?_
    refine LJ_nil ?_
    refine QJ_then ?_
    refine CJ_block ?_
    refine CJ_loopF (F := fun (i : Nat) => ⟨[(7, .pointer (some ⟨B9, 0, none⟩)), (12, .slice A5 l5.length c5), (13, .int .i64 (bd : Nat)), (212, .slice A5 l5.length c5), (213, .int .i64 l5.length), (214, .int .i64 (i : Nat))], [], []⟩) (I := fun (i : Nat) => i ≤ l5.length) (m := fun (i : Nat) => l5.length - i) 0 (μr := [_, _, _, _, _]) (Nat.zero_le _) (And.intro rfl (And.intro rfl (And.intro rfl (And.intro rfl (And.intro rfl (And.intro rfl (trivial))))))) (permI [] rfl) (fun _ h => nomatch h) ?_
    rintro k hk
    try dsimp only at hk
    show CJ _ _ _ [(7, .pointer (some ⟨B9, 0, none⟩)), (12, .slice A5 l5.length c5), (13, .int .i64 (bd : Nat)), (212, .slice A5 l5.length c5), (213, .int .i64 l5.length), (214, .int .i64 (k : Nat))] (_ :: _ :: _ :: _ :: _ :: _) _
    refine CJ_seq ?_
    refine CJ_reg ?_
    refine LJ_y rfl rfl (YJ_bin rfl rfl rfl) ?_
    refine LJ_nil ?_
    refine QJ_then ?_
    refine CJ_seq ?_
    refine CJ_cond rfl (fun h215 => ?_) (fun h215 => ?_)
    ·simp only [decide_eq_true_eq] at h215
     obtain ⟨a9, ha9⟩ : ∃ a, l5[k]? = some a := ⟨_, List.getElem?_eq_getElem (by omega)⟩
     have hmd := Nat.mod_lt (k + 1) hl0
     obtain ⟨b9, hb9⟩ : ∃ b, l5[(k + 1) % l5.length]? = some b := ⟨_, List.getElem?_eq_getElem hmd⟩
     have ho9 := eh k (by omega)
     rw [getD_of ha9, getD_of hb9] at ho9
     obtain ⟨y, hy, j, hj, y2, hy2, j2, hj2, t, t2, ht, ht2, hk1, hk2, hr1, hr2⟩ := hG.bord (gW_or _) (gW_or _) ho9
     obtain ⟨⟨q1, q2⟩, q3, q4⟩ := hG.kvb hy hk1
     refine CJ_skip ?_
     refine QJ_then ?_
     refine CJ_seq ?_
     refine CJ_block ?_
     refine CJ_seq ?_
     refine CJ_reg ?_
     refine LJ_y rfl rfl (YJ_move rfl) ?_
     refine LJ_y rfl rfl (YJ_ixFact (n' := l5.length) rfl rfl elt_55 m1 (by decide) (by omega) (by omega) (by omega)) ?_
     refine LJ_y rfl rfl (YJ_loadFactP (A := A5) (j := k) rfl (congrArg _ (by omega)) tyi_3 m1 (Iv_at ha9)) ?_
     refine LJ_y rfl rfl (YJ_assign rfl) ?_
     refine LJ_y rfl rfl (YJ_assign rfl) ?_
     refine LJ_nil ?_
     refine QJ_then ?_
     refine CJ_seq ?_
     refine CJ_reg ?_
     refine LJ_y rfl rfl (YJ_move rfl) ?_
     refine LJ_y rfl rfl (YJ_move rfl) ?_
     refine LJ_y rfl rfl (YJ_move rfl) ?_
     refine LJ_y rfl rfl (YJ_move rfl) ?_
     refine LJ_y rfl rfl (YJ_bin rfl rfl (iop_add (by omega))) ?_
     refine LJ_y rfl rfl (YJ_move rfl) ?_
     refine LJ_y rfl rfl (YJ_len rfl ulen_55 rfl) ?_
     refine LJ_y rfl rfl (YJ_rem rfl rfl (by first | decide | omega)) ?_
     refine LJ_val (v := .int .i64 (((k + 1) % l5.length : Nat) : Int)) (congrArg (Value.int .i64) (tmod_nat k l5.length)) ?_
     refine LJ_y rfl rfl (YJ_ixFact (n' := l5.length) rfl rfl elt_55 m1 (by decide) (by omega) (by omega) (by omega)) ?_
     refine LJ_y rfl rfl (YJ_loadFactP (A := A5) (j := (k + 1) % l5.length) rfl (congrArg _ (by omega)) tyi_3 m1 (Iv_at hb9)) ?_
     refine LJ_callX rfl rfl rfl rfl rfl (find9_c (h := hm) (pts := M9.pts) (a := a9) (b := b9) hlen hmA hal (fun h0 _ => by have := hG.arh (p := (max a9 b9).toNat) (by omega); rw [Int.toNat_of_nonneg h0] at this; exact this)) (fun r h => .tail _ (.tail _ (.tail _ (.tail _ (frz_at r h))))) ?_
     rintro ⟨r1, r2, r3⟩ hr
     have he9 := hG.fnd hy ht hj hk1 hr
     try dsimp only at he9
     rw [Prod.mk.injEq, Prod.mk.injEq] at he9
     obtain ⟨rfl, rfl, rfl⟩ := he9
     refine LJ_y rfl rfl (YJ_move rfl) ?_
     refine LJ_y rfl rfl (YJ_extract rfl rfl) ?_
     refine LJ_val (v := .int .i64 (y.1 : Nat)) (rfl) ?_
     refine LJ_y rfl rfl (YJ_extract rfl rfl) ?_
     refine LJ_val (v := .int .i64 (j : Nat)) (rfl) ?_
     refine LJ_y rfl rfl (YJ_extract rfl rfl) ?_
     refine LJ_val (v := .bool true) (rfl) ?_
     refine LJ_y rfl rfl (YJ_assign rfl) ?_
     refine LJ_y rfl rfl (YJ_assign rfl) ?_
     refine LJ_y rfl rfl (YJ_assign rfl) ?_
     refine LJ_nil ?_
     refine QJ_then ?_
     refine CJ_seq ?_
     refine CJ_reg ?_
     refine LJ_y rfl rfl (YJ_move rfl) ?_
     refine LJ_y rfl rfl (YJ_move rfl) ?_
     refine LJ_y rfl rfl (YJ_move rfl) ?_
     refine LJ_y rfl rfl (YJ_bin rfl rfl (iop_add (by omega))) ?_
     refine LJ_y rfl rfl (YJ_move rfl) ?_
     refine LJ_y rfl rfl (YJ_len rfl ulen_55 rfl) ?_
     refine LJ_y rfl rfl (YJ_rem rfl rfl (by first | decide | omega)) ?_
     refine LJ_val (v := .int .i64 (((k + 1) % l5.length : Nat) : Int)) (congrArg (Value.int .i64) (tmod_nat k l5.length)) ?_
     refine LJ_y rfl rfl (YJ_ixFact (n' := l5.length) rfl rfl elt_55 m1 (by decide) (by omega) (by omega) (by omega)) ?_
     refine LJ_y rfl rfl (YJ_loadFactP (A := A5) (j := (k + 1) % l5.length) rfl (congrArg _ (by omega)) tyi_3 m1 (Iv_at hb9)) ?_
     refine LJ_y rfl rfl (YJ_move rfl) ?_
     refine LJ_callX rfl rfl rfl rfl rfl (find9_c (h := hm) (pts := M9.pts) (a := b9) (b := a9) hlen hmA hal (fun h0 _ => by have := hG.arh (p := (max b9 a9).toNat) (by omega); rw [Int.toNat_of_nonneg h0] at this; exact this)) (fun r h => .tail _ (.tail _ (.tail _ (.tail _ (frz_at r h))))) ?_
     rintro ⟨r1, r2, r3⟩ hr
     have he9 := hG.fnd hy2 ht2 hj2 hk2 hr
     try dsimp only at he9
     rw [Prod.mk.injEq, Prod.mk.injEq] at he9
     obtain ⟨rfl, rfl, rfl⟩ := he9
     refine LJ_y rfl rfl (YJ_move rfl) ?_
     refine LJ_y rfl rfl (YJ_extract rfl rfl) ?_
     refine LJ_val (v := .int .i64 (y2.1 : Nat)) (rfl) ?_
     refine LJ_y rfl rfl (YJ_extract rfl rfl) ?_
     refine LJ_val (v := .int .i64 (j2 : Nat)) (rfl) ?_
     refine LJ_y rfl rfl (YJ_extract rfl rfl) ?_
     refine LJ_val (v := .bool true) (rfl) ?_
     refine LJ_y rfl rfl (YJ_assign rfl) ?_
     refine LJ_y rfl rfl (YJ_assign rfl) ?_
     refine LJ_y rfl rfl (YJ_assign rfl) ?_
     refine LJ_nil ?_
     refine QJ_then ?_
     refine CJ_seq ?_
     refine CJ_reg ?_
     refine LJ_y rfl rfl (YJ_move rfl) ?_
     refine LJ_y rfl rfl (YJ_not rfl) ?_
     refine LJ_y rfl rfl (YJ_move rfl) ?_
     refine LJ_bool (c := false) rfl ?_
     refine LJ_y rfl rfl (YJ_move rfl) ?_
     refine LJ_y rfl rfl (YJ_not rfl) ?_
     refine LJ_y rfl rfl (YJ_pickF rfl rfl) ?_
     refine LJ_y rfl rfl (YJ_move rfl) ?_
     refine LJ_bool (c := false) rfl ?_
     refine LJ_y rfl rfl (YJ_move rfl) ?_
     refine LJ_y rfl rfl (YJ_move rfl) ?_
     refine LJ_call0 rfl rfl rfl rfl rfl (real_c (h := hm) (pts := M9.pts) (tris := M9.tris)) (fun r h => .tail _ (.tail _ (.tail _ (.tail _ (frz_mesh r h))))) ?_
     refine LJ_val (v := .bool true) (congrArg Value.bool (decide_eq_true hr1)) ?_
     refine LJ_y rfl rfl (YJ_not rfl) ?_
     refine LJ_y rfl rfl (YJ_pickF rfl rfl) ?_
     refine LJ_y rfl rfl (YJ_move rfl) ?_
     refine LJ_bool (c := false) rfl ?_
     refine LJ_y rfl rfl (YJ_move rfl) ?_
     refine LJ_y rfl rfl (YJ_move rfl) ?_
     refine LJ_call0 rfl rfl rfl rfl rfl (real_c (h := hm) (pts := M9.pts) (tris := M9.tris)) (fun r h => .tail _ (.tail _ (.tail _ (.tail _ (frz_mesh r h))))) ?_
     refine LJ_val (v := .bool false) (congrArg Value.bool (decide_eq_false hr2)) ?_
     refine LJ_y rfl rfl (YJ_pickF rfl rfl) ?_
     refine LJ_nil ?_
     refine QJ_then ?_
     refine CJ_condF rfl ?_
     refine CJ_skip ?_
     refine QJ_in_normal ?_
     refine QJ_then ?_
     refine CJ_reg ?_
     refine LJ_y rfl rfl (YJ_bin rfl rfl (iop_add (by omega))) ?_
     refine LJ_y rfl rfl (YJ_move rfl) ?_
     refine LJ_nil ?_
     refine QJ_roundF (F := fun (i : Nat) => ⟨[(7, .pointer (some ⟨B9, 0, none⟩)), (12, .slice A5 l5.length c5), (13, .int .i64 (bd : Nat)), (212, .slice A5 l5.length c5), (213, .int .i64 l5.length), (214, .int .i64 (i : Nat))], [], []⟩) (I := fun (i : Nat) => i ≤ l5.length) (m := fun (i : Nat) => l5.length - i) (i := k) (k + 1) (μd := []) (by omega) (by omega) (And.intro rfl (And.intro rfl (And.intro rfl (And.intro rfl (And.intro rfl (And.intro rfl (trivial))))))) (permI [] rfl) (fun _ h => nomatch h) (fun _ h => h)
    ·simp only [decide_eq_false_iff_not] at h215
     refine CJ_exit ?_
     refine QJ_then_exit ?_
     refine QJ_then_exit ?_
     refine QJ_in_exit ?_
     refine QJ_then ?_
     refine CJ_seq ?_
     refine CJ_reg ?_
     refine LJ_y rfl rfl (YJ_move rfl) ?_
     refine LJ_y rfl rfl (YJ_move rfl) ?_
     refine LJ_y rfl rfl (YJ_len rfl ulen_55 rfl) ?_
     refine LJ_y rfl rfl (YJ_bin rfl rfl rfl) ?_
     refine LJ_val (v := .bool true) (congrArg Value.bool (decide_eq_true (by omega))) ?_
     refine LJ_y rfl rfl (YJ_assign rfl) ?_
     refine LJ_nil ?_
     refine QJ_then ?_
     refine CJ_ret ?_
     refine QJ_finM (.inl rfl) [D1, D0] rfl (μ' := []) (μr := [_, _, _]) (φ' := []) (res_tmp rfl rfl) (permI [0, 1] rfl) (fun _ h => nomatch h) ?_
     exact ⟨rfl, rfl, rfl⟩
  ·exact fun _ _ _ _ _ h => h.elim
 ·exact fun _ _ _ _ _ h => h.elim
end Go.Proofs.Ytbanlhlggkdanaa
namespace Go.Proofs.Ytbanlhlggkdanaa
open Go.ChangeShapes Go.WideShapes Go.ChangeAt Go.RowKit Go.Joins
section
variable {H : Type} {enc : TypeId × Value → H} {P : Program}
theorem post_of_below' {f : Func} {s : ChangeSpec} {apart fresh handsOn again : Bool} {W W' : World} {args : Array Value} {v : Value} {ds gs : List (DataW H)} {before pa pv : List MemPlace}
  (hW : DataW.Whole enc P f.params.toList s.vars apart W args.toList ds gs before)
  (hres : ∀ (b : Nat) (sp : Nat → Bool) (hd : Bool), DataW.TrodAll enc P W' b sp hd f.resultTypes.toList (v.resultList f.resultTypes.size) (s.fn H (ds ++ gs)).results [])
  (hargs : ∀ sp : Nat → Bool, (∀ p ∈ before, sp p.block = true) → DataW.TrodAll enc P W' 0 sp true f.params.toList args.toList (s.fn H (ds ++ gs)).args pa)
  (hvars : ∀ sp : Nat → Bool, (∀ p ∈ before, sp p.block = true) → DataW.TrodVars enc P W' sp s.vars (s.fn H (ds ++ gs)).vars pv)
  (hps : before = pa ++ pv) (hb : Below W.heap.size W W')
  (hok : ∀ (j : Nat) (t : TypeId) (r : Value), f.resultTypes[j]? = some t → (v.resultList f.resultTypes.size)[j]? = some r → Value.okWide P W' .any 0 t r) :
  s.post enc P f apart fresh handsOn again W args v W' := by
 have hlt : ∀ p ∈ before, p.block < W.heap.size := fun p hp => hW.lt p hp
 have hold : ∀ p ∈ before, (fun b => decide (b < W.heap.size)) p.block = true := fun p hp => by simpa using hlt p hp
 refine ⟨ds, gs, before, [], pa, pv, hW, hres _ _ _, hargs _ hold, hvars _ hold, World.keptBut_mono (fun p hp => ⟨hp, ?_⟩) (hb.frame (· ∈ before)), fun _ => ?_⟩
 ·rw [hps, List.mem_append] at hp
  exact Or.inr hp
 ·obtain ⟨_, _, _, _, _, hz, hn⟩ := hW
  refine ⟨hok, _, _, ([] ++ pa) ++ pv, ⟨[] ++ pa, pv, trodAll_append (hargs _ (fun _ _ => rfl)) (hres _ _ _), hvars _ (fun _ _ => rfl), rfl, ?_, ?_⟩, ?_⟩
  ·intro b off hp
   have hin : MemPlace.cell b off ∈ before := by rw [hps]; simpa using hp
   rw [hb.frozen (hlt _ hin)]
   exact hz b off hin
  ·intro ha
   have := hn ha
   rw [hps] at this
   simpa using this
  ·intro p hp _
   rw [hps]
   simpa using hp
end
theorem Tri.law {P : Program} {f : FuncId} {args : List Value} {v : Value} (h : Tri P f args [] [] (Ret0 v)) (w : World) :
  Calls P f args.toArray w fun e w' => e = .returned v ∧ Below w.heap.size w w' := by
 refine (h.2 w (fun _ => False) (fun _ => False) (fun _ h => h) (fun r hr => nomatch hr) (fun _ h _ => h) (fun _ h => h.elim)).mono ?_
 rintro e w' ⟨v', μ', φ', he, ⟨rfl, rfl, rfl⟩, hk, -⟩
 exact ⟨he, hk.below (fun _ h => h)⟩
theorem Try.own : ownKnob Try.prog.godebug = none := by kernel_rfl
theorem cellsI : Try.prog.cellsOf 3 = 1 := by kernel_rfl
section
variable {H : Type} {enc : TypeId × Value → H} {w : World} {base b0 : Nat} {spare : Nat → Bool} {held : Bool} {r : Reach} {v : Value} {d : DataW H} {p : List MemPlace}
end
section
variable {H : Type} {enc : TypeId × Value → H} {w : World} {base b0 : Nat} {spare : Nat → Bool} {held : Bool} {r : Reach} {v : Value} {d : DataW H} {p : List MemPlace}
end
end Go.Proofs.Ytbanlhlggkdanaa
namespace Go.Proofs.Ytbanlhlggkdanaa
open Go.ChangeShapes Go.WideShapes Go.ChangeAt Go.RowKit Go.Joins
theorem u32_b {n : Int} (h : (Lit.int .u32 n).wf = true) : 0 ≤ n ∧ n < 4294967296 := by
 simp [Lit.wf, IntKind.min, IntKind.max] at h
 simp [IntKind.signed, IntKind.bits] at h
 omega
theorem cellsA2 : Try.prog.cellsOf 46 = 2 := by kernel_rfl
theorem list2' {α : Type} {cs : Array α} (h : cs.size = 2) : ∃ c0 c1, cs = #[c0, c1] := by
 obtain ⟨l⟩ := cs
 match l, h with
 | [c0, c1], _ => exact ⟨c0, c1, rfl⟩
section
variable {H : Type} {enc : TypeId × Value → H} {w : World} {base b0 : Nat} {spare : Nat → Bool} {held : Bool} {r : Reach} {v : Value} {d : DataW H} {p : List MemPlace}
set_option maxRecDepth 100000 in
theorem open_arr2 (hv : Value.okWide Try.prog w r b0 46 v) (h : DataW.Trod enc Try.prog w base spare held 46 v d p) :
  ∃ a b : Int, v = .agg #[.int .i64 a, .int .i64 b] ∧ d = .agg [.lit (.int .i64 a), .lit (.int .i64 b)] ∧ p = [] ∧ (Lit.int .i64 a).wf = true ∧ (Lit.int .i64 b).wf = true := by
 obtain ⟨cs, rfl, hsz⟩ : ∃ cs, v = .agg cs ∧ cs.size = Try.prog.cellsOf 46 := by
  simp only [Value.okWide, Try.underlying46] at hv
  obtain ⟨cs, h1, h2, _⟩ := hv
  exact ⟨cs, h1, h2⟩
 obtain ⟨c0, c1, rfl⟩ := list2' (hsz.trans cellsA2)
 obtain ⟨fuel, hf⟩ := h
 obtain ⟨xs, m, rfl, hx, hl, hn, hi⟩ := DataW.trod_array Try.underlying46 hf
 have q0 := hi 0 (by decide)
 rw [cellsI] at q0
 have q1 := hi 1 (by decide)
 rw [cellsI] at q1
 match xs, hn with
 | [z0, z1], _ =>
  obtain ⟨x0, e0, r0, w0⟩ := DataW.trod_int (x := z0) (fuel := m) (cs := [c0]) Try.underlying3 (by simpa [Value.cells] using q0)
  obtain ⟨x1, e1, r1, w1⟩ := DataW.trod_int (x := z1) (fuel := m) (cs := [c1]) Try.underlying3 (by simpa [Value.cells] using q1)
  simp at e0 e1
  subst e0 e1 r0 r1
  simp at hx
  obtain ⟨rfl, rfl⟩ := hx
  exact ⟨x0, x1, rfl, rfl, rfl, w0, w1⟩
set_option maxRecDepth 100000 in
theorem shut_arr2 {a b : Int} (wa : (Lit.int .i64 a).wf = true) (wb : (Lit.int .i64 b).wf = true) : DataW.Trod enc Try.prog w base spare held 46 (.agg #[.int .i64 a, .int .i64 b]) (.agg [.lit (.int .i64 a), .lit (.int .i64 b)]) [] :=
 ⟨2, by simp [DataW.trod, Value.cells, Try.underlying46, Try.underlying3, cellsA2, cellsI, wa, wb, show List.range 2 = [0, 1] from rfl]⟩
end
end Go.Proofs.Ytbanlhlggkdanaa
