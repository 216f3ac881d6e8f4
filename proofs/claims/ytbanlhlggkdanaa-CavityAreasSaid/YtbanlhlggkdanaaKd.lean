/- What the law CavityAreas needs. Part 4: the texts of J4 K1 K2 H5 S1 S2 V1 Ent Fit S3 S4 S5 S6 S7 Frz V2 V4 V5 V6 V3 V7 V8 V10 S8 S9 S10 V9 Cln Def T2 S11 T3 C1 T4 C2 C3 C6 T6 T7 T8 T1 V11. -/
import Derived.Test.YtbanlhlggkdanaaKc
import Derived.Laws.Pointers
import Derived.Lib.SliceRun
import Derived.Sort.Grow
import Derived.Shelf.GgSortFunc.RowK
import Derived.Shelf.SlSortCmp.WholeK
import Derived.Ground.SlsfProg
set_option linter.unusedSimpArgs false
set_option linter.unusedVariables false
namespace Go.Proofs.Ytbanlhlggkdanaa
open Go.RowKit
theorem ent_57 : Enter Try.prog 57 = true := by kernel_rfl
theorem ent_24 : Enter Try.prog 24 = true := by kernel_rfl
theorem YJ_andU {E : Env} {ty : TypeId} {σ : List (Nat × Value)} {μ φ : List Res} {xt yt : TypeId} {x y : Operand} {a : Int} (hx : oev σ x = some (.int .u32 a)) (hy : oev σ y = some (.int .u32 1)) (h0 : 0 ≤ a) :
  YJ E (.binOp .and xt x y yt) ty σ μ φ (.int .u32 (a % 2)) := fun ac w _ _ _ _ hs _ _ => by
 simp only [execOp, hs.ev hx, hs.ev hy, eqGuard_and, binOp_and]
 have : (Op.intBits .and .u32 a 1) = pure (.int .u32 (a % 2)) := by
  unfold Op.intBits
  show (pure (Value.int .u32 (IntKind.u32.wrap ((BitVec.ofInt 32 a &&& BitVec.ofInt 32 1 : BitVec 32).toNat : Int))) : Sem Value) = _
  have e : (BitVec.ofInt 32 a &&& BitVec.ofInt 32 1 : BitVec 32).toNat = (a % 2).toNat := by
   rw [BitVec.toNat_and]
   have h2 : (BitVec.ofInt 32 1 : BitVec 32).toNat = 2 ^ 1 - 1 := by decide
   rw [h2, Nat.and_two_pow_sub_one_eq_mod, BitVec.toNat_ofInt]
   omega
  rw [e]
  have e2 : IntKind.u32.wrap (((a % 2).toNat : Nat) : Int) = a % 2 := by
   rw [Int.toNat_of_nonneg (by omega)]
   rcases (by omega : a % 2 = 0 ∨ a % 2 = 1) with h | h <;> rw [h] <;> decide
  rw [e2]
 rw [this]
 rfl
theorem CJ_freezeK {E : Env} {Q : Exit → Act → World → Prop} {σ : List (Nat × Value)} {μ φ : List Res} {cd : Code} {r : Res} (k : Nat) (hk : μ[k]? = some r) (h : CJ E Q cd σ (μ.eraseIdx k) (r :: φ)) : CJ E Q cd σ μ φ :=
 fun a w ha hm => h a w ha (hm.weak (μr := []) (by simpa using perm_at hk) (fun _ h => h)).freeze
def gW (w : Int) : Nat := (1 + w % 2).toNat
theorem gW_or (w : Int) : gW w = 1 ∨ gW w = 2 := by unfold gW; omega
def bitN (v : Int) (k : Nat) : Bool := decide (v / 2 ^ min k 32 % 2 = 1)
def atI (W : Nat) (x y : Int) : Int := y * ((W : Int) + 1) + x
def ptsG (W y x : Nat) : List (Int × Int) := (List.range y).flatMap (fun b => (List.range (W + 1)).map fun (a : Nat) => (2 * (a : Int), 2 * ((b : Nat) : Int))) ++ (List.range x).map fun (a : Nat) => (2 * (a : Int), 2 * (y : Int))
def tri2 (W : Nat) (f : Nat → Bool) (y x : Nat) : List (Int × Int × Int) :=
 bif f (W * y + x) then [(atI W x y, atI W ((x : Int) + 1) y, atI W ((x : Int) + 1) ((y : Int) + 1)), (atI W ((x : Int) + 1) ((y : Int) + 1), atI W x ((y : Int) + 1), atI W x y)]
 else [(atI W ((x : Int) + 1) y, atI W x ((y : Int) + 1), atI W x y), (atI W x ((y : Int) + 1), atI W ((x : Int) + 1) y, atI W ((x : Int) + 1) ((y : Int) + 1))]
def trisG (W : Nat) (f : Nat → Bool) (y x : Nat) : List (Int × Int × Int) := (List.range y).flatMap (fun b => (List.range W).flatMap (tri2 W f b)) ++ (List.range x).flatMap (tri2 W f y)
theorem ptsG_x {W y x : Nat} : ptsG W y (x + 1) = ptsG W y x ++ [(2 * (x : Int), 2 * (y : Int))] := by unfold ptsG; simp [List.range_succ]
theorem ptsG_y {W y : Nat} : ptsG W (y + 1) 0 = ptsG W y (W + 1) := by unfold ptsG; simp [List.range_succ]
theorem trisG_x {W y x : Nat} {f : Nat → Bool} : trisG W f y (x + 1) = trisG W f y x ++ tri2 W f y x := by unfold trisG; simp [List.range_succ]
theorem trisG_y {W y : Nat} {f : Nat → Bool} : trisG W f (y + 1) 0 = trisG W f y W := by unfold trisG; simp [List.range_succ]
theorem tri2_len {W y x : Nat} {f : Nat → Bool} : (tri2 W f y x).length = 2 := by unfold tri2; cases f (W * y + x) <;> rfl
theorem t3_T {W y x : Nat} {f : Nat → Bool} (h : f (W * y + x) = true) : t3Cells (trisG W f y x) ++ [.int .i64 (atI W x y), .int .i64 (atI W ((x : Int) + 1) y), .int .i64 (atI W ((x : Int) + 1) ((y : Int) + 1)), .int .i64 (atI W ((x : Int) + 1) ((y : Int) + 1)), .int .i64 (atI W x ((y : Int) + 1)), .int .i64 (atI W x y)] = t3Cells (trisG W f y (x + 1)) := by
 rw [trisG_x]; simp [t3Cells, tri2, h]
theorem t3_F {W y x : Nat} {f : Nat → Bool} (h : f (W * y + x) = false) : t3Cells (trisG W f y x) ++ [.int .i64 (atI W ((x : Int) + 1) y), .int .i64 (atI W x ((y : Int) + 1)), .int .i64 (atI W x y), .int .i64 (atI W x ((y : Int) + 1)), .int .i64 (atI W ((x : Int) + 1) y), .int .i64 (atI W ((x : Int) + 1) ((y : Int) + 1))] = t3Cells (trisG W f y (x + 1)) := by
 rw [trisG_x]; simp [t3Cells, tri2, h]
def gPts (W H : Nat) : List (Int × Int) := ptsG W (H + 1) 0
def gTris (W H : Nat) (f : Nat → Bool) : List (Int × Int × Int) := trisG W f H 0
def bit4 (b0 b1 b2 b3 : Bool) : Nat → Bool
 | 0 => b0
 | 1 => b1
 | 2 => b2
 | _ => b3
theorem gTris_nf {W H : Nat} {f : Nat → Bool} (hW : W = 1 ∨ W = 2) (hH : H = 1 ∨ H = 2) : gTris W H f = gTris W H (bit4 (f 0) (f 1) (f 2) (f 3)) := by
 rcases hW with rfl | rfl <;> rcases hH with rfl | rfl <;> rfl
def gHead (W H : Nat) (f : Nat → Bool) : Int × Int × Int := (gTris W H f).headD (0, 0, 0)
def gOkB (W H : Nat) (f : Nat → Bool) : Bool := (gTris W H f).length != 0 && decide ((gTris W H f).length ≤ 8) && (gTris W H f).all (fun x => decide (0 ≤ x.1 ∧ x.1 < (gPts W H).length ∧ 0 ≤ x.2.1 ∧ x.2.1 < (gPts W H).length ∧ 0 ≤ x.2.2 ∧ x.2.2 < (gPts W H).length)) && decide (0 < pA (gPts W H) (gHead W H f).1.toNat (gHead W H f).2.1.toNat (gHead W H f).2.2.toNat)
theorem gOkB_all : ∀ (b0 b1 b2 b3 : Bool), gOkB 1 1 (bit4 b0 b1 b2 b3) = true ∧ gOkB 1 2 (bit4 b0 b1 b2 b3) = true ∧ gOkB 2 1 (bit4 b0 b1 b2 b3) = true ∧ gOkB 2 2 (bit4 b0 b1 b2 b3) = true := by decide +kernel
theorem gOkB_true {W H : Nat} {f : Nat → Bool} (hW : W = 1 ∨ W = 2) (hH : H = 1 ∨ H = 2) : gOkB W H f = true := by
 unfold gOkB gHead
 rw [gTris_nf hW hH]
 have := gOkB_all (f 0) (f 1) (f 2) (f 3)
 rcases hW with rfl | rfl <;> rcases hH with rfl | rfl
 ·exact this.1
 ·exact this.2.1
 ·exact this.2.2.1
 ·exact this.2.2.2
theorem gPts_ok {W H : Nat} (hW : W = 1 ∨ W = 2) (hH : H = 1 ∨ H = 2) : (gPts W H).length ≤ 9 ∧ ∀ p, p ∈ gPts W H → 0 ≤ p.1 ∧ p.1 ≤ 4 ∧ 0 ≤ p.2 ∧ p.2 ≤ 4 := by
 rcases hW with rfl | rfl <;> rcases hH with rfl | rfl <;> decide
theorem g_shape {W H : Nat} (hW : W = 1 ∨ W = 2) (hH : H = 1 ∨ H = 2) (f : Nat → Bool) : ∃ (a b c : Nat) (rest : List (Int × Int × Int)), gTris W H f = ((a : Int), (b : Int), (c : Int)) :: rest ∧ rest.length ≤ 8 ∧ (∀ x, x ∈ gTris W H f → x.1 < (gPts W H).length ∧ x.2.1 < (gPts W H).length ∧ x.2.2 < (gPts W H).length) ∧ a < (gPts W H).length ∧ b < (gPts W H).length ∧ c < (gPts W H).length ∧ 0 < pA (gPts W H) a b c := by
 have h := gOkB_true (f := f) hW hH
 unfold gOkB gHead at h
 rcases hT : gTris W H f with _ | ⟨⟨a, b, c⟩, rest⟩
 ·rw [hT] at h; simp at h
 ·rw [hT] at h
  simp only [Bool.and_eq_true, decide_eq_true_eq, List.headD_cons] at h
  obtain ⟨⟨⟨_, h1⟩, h2⟩, h3⟩ := h
  rw [List.all_eq_true] at h2
  have h4 : ∀ x, x ∈ (a, b, c) :: rest → (0 ≤ x.1 ∧ x.1 < (gPts W H).length ∧ 0 ≤ x.2.1 ∧ x.2.1 < (gPts W H).length ∧ 0 ≤ x.2.2 ∧ x.2.2 < (gPts W H).length) := fun x hx => of_decide_eq_true (h2 x hx)
  obtain ⟨q1, q2, q3, q4, q5, q6⟩ := h4 _ (.head _)
  dsimp only at q1 q2 q3 q4 q5 q6 h3
  refine ⟨a.toNat, b.toNat, c.toNat, rest, by rw [Int.toNat_of_nonneg q1, Int.toNat_of_nonneg q3, Int.toNat_of_nonneg q5], ?_, ?_, by omega, by omega, by omega, of_decide_eq_true h3⟩
  ·rw [List.length_cons] at h1; omega
  ·intro x hx
   have := h4 x hx
   exact ⟨this.2.1, this.2.2.2.1, this.2.2.2.2.2⟩
def gridR (F : MapI) (W H : Nat) (f : Nat → Bool) : BS := buildR F (gPts W H) (gHead W H f).1 (gHead W H f).2.1 (gHead W H f).2.2 (gTris W H f)
set_option maxRecDepth 100000 in
set_option maxHeartbeats 1000000 in
theorem at_c {b W : Nat} {x y : Int} (hW : W = 1 ∨ W = 2) (hx : 0 ≤ x ∧ x ≤ 5) (hy : 0 ≤ y ∧ y ≤ 5) : Tri Try.prog 57 [.int .i64 x, .int .i64 y, .pointer (some ⟨b, 0, none⟩)] [] [sliceR 1 (some ⟨b, 0, none⟩) 1 [.int .i64 (W : Int)]] (Ret0 (.int .i64 (atI W x y))) := by
 refine Tri_of (N := 12) Try.func57 rfl ent_57 rfl rfl ?_
 intro w0 S0 T0
 show CJ _ _ _ [(0, _), (1, _), (2, _)] _ _
 have hm9 : 0 ≤ y * ((W : Int) + 1) ∧ y * ((W : Int) + 1) ≤ 15 := by rcases hW with rfl | rfl <;> (constructor <;> omega)
 refine CJ_seq ?_
 refine CJ_reg ?_
 refine LJ_y rfl rfl (YJ_assign rfl) ?_
 refine LJ_nil ?_
 refine QJ_then ?_
 refine CJ_seq ?_
 refine CJ_reg ?_
 refine LJ_y rfl rfl (YJ_move rfl) ?_
 refine LJ_y rfl rfl (YJ_loadFactP (A := some ⟨b, 0, none⟩) (j := 0) rfl rfl tyi_3 m0 rfl) ?_
 refine LJ_y rfl rfl (YJ_bin rfl rfl (iop_add (by rcases hW with rfl | rfl <;> omega))) ?_
 refine LJ_y rfl rfl (YJ_bin rfl rfl (iop_mul (by omega))) ?_
 refine LJ_y rfl rfl (YJ_move rfl) ?_
 refine LJ_y rfl rfl (YJ_bin rfl rfl (iop_add (by omega))) ?_
 refine LJ_y rfl rfl (YJ_assign rfl) ?_
 refine LJ_nil ?_
 refine QJ_then ?_
 refine CJ_ret ?_
 refine QJ_fin (.inl rfl) (μ' := []) (μr := _) (φ' := []) (res_tmp rfl rfl) (List.Perm.refl _) (fun _ h => nomatch h) ?_
 exact ⟨rfl, rfl, rfl⟩
set_option maxRecDepth 100000 in
set_option maxHeartbeats 16000000 in
theorem grid_c {w h v fa : Int} (hv : 0 ≤ v ∧ v < 4294967296) (hf : 0 ≤ fa ∧ fa < 4294967296) : Tri Try.prog 24 [.int .i64 w, .int .i64 h, .int .u32 v, .int .u32 fa] [] [] (RetX (fun (x : Nat × MapI × MapO × Option Addr × Nat) => (fa = 0 → x.2.1 = []) ∧ x.2.2.1.Perm (gridR x.2.1 (gW w) (gW h) (bitN v)).L) (fun x => .tuple #[.pointer (some ⟨x.1, 0, none⟩), .slice x.2.2.2.1 (gTris (gW w) (gW h) (bitN v)).length x.2.2.2.2]) (fun x => [meshR x.1 (buildG x.2.1 (gridR x.2.1 (gW w) (gW h) (bitN v)) x.2.2.1).M]) (fun x => [sliceR 3 x.2.2.2.1 (gTris (gW w) (gW h) (bitN v)).length (t3Cells (gTris (gW w) (gW h) (bitN v)))])) := by
 refine Tri_of (N := 158) Try.func24 rfl ent_24 rfl rfl ?_
 intro w0 S0 T0
 show CJ _ _ _ [(0, _), (1, _), (2, _), (3, _)] _ _
 have hW := gW_or w
 have hH := gW_or h
 have hwW : 1 + w % ((2 ^ 1 : Nat) : Int) = ((gW w : Nat) : Int) := by unfold gW; omega
 have hhH : 1 + h % ((2 ^ 1 : Nat) : Int) = ((gW h : Nat) : Int) := by unfold gW; omega
 generalize gW w = W at *
 generalize gW h = H at *
 refine CJ_seq ?_
 refine CJ_reg ?_
 refine LJ_box (cs := #[_]) rfl rfl rfl rfl ?_
 intro b1
 refine LJ_y rfl rfl (YJ_assign rfl) ?_
 refine LJ_y rfl rfl (YJ_assign rfl) ?_
 refine LJ_nil ?_
 refine QJ_then ?_
 refine CJ_seq ?_
 refine CJ_reg ?_
 refine LJ_y rfl rfl (YJ_loadL rfl tyi_3 m0 rfl) ?_
 refine LJ_y rfl rfl (YJ_andM 1 rfl rfl (by decide) (by decide)) ?_
 refine LJ_y rfl rfl (YJ_bin rfl rfl (iop_add (by omega))) ?_
 refine LJ_val (v := .int .i64 (W : Int)) (congrArg (Value.int .i64) hwW) ?_
 refine LJ_y rfl rfl (YJ_move rfl) ?_
 refine LJ_y rfl rfl (YJ_andM 1 rfl rfl (by decide) (by decide)) ?_
 refine LJ_y rfl rfl (YJ_bin rfl rfl (iop_add (by omega))) ?_
 refine LJ_val (v := .int .i64 (H : Int)) (congrArg (Value.int .i64) hhH) ?_
 refine LJ_store (cs' := #[_]) (μ' := [_]) 0 rfl rfl rfl rfl tyi_3 rfl (Nat.le_of_ble_eq_true rfl) rfl rfl rfl ?_
 refine LJ_y rfl rfl (YJ_assign rfl) ?_
 refine LJ_nil ?_
 refine QJ_then ?_
 refine CJ_seq ?_
 refine CJ_freezeCells (size := 1) (n := 1) (xs := [.int .i64 (W : Int)]) 0 rfl rfl rfl ?_
 show CJ _ _ _ _ (_) _
 refine CJ_reg ?_
 refine LJ_y rfl rfl (YJ_assign rfl) ?_
 refine LJ_nil ?_
 refine QJ_then ?_
 refine CJ_seq ?_
 refine CJ_seq ?_
 refine CJ_newRow 23 2 ?_
 refine CJ_reg ?_
 refine LJ_y rfl rfl (YJ_move rfl) ?_
 refine LJ_y rfl rfl (YJ_bin rfl rfl (iop_add (by omega))) ?_
 refine LJ_y rfl rfl (YJ_move rfl) ?_
 refine LJ_nil ?_
 refine QJ_then ?_
 refine CJ_block ?_
 refine CJ_loopF (F := fun (i : Nat × Nat × Option Addr × Nat) => ⟨[(1, .int .i64 (H : Int)), (2, .int .u32 v), (3, .int .u32 fa), (4, .pointer (some ⟨b1, 0, none⟩)), (10, .slice i.2.2.1 i.2.1 i.2.2.2), (34, .int .i64 ((H : Int) + 1)), (35, .int .i64 (i.1 : Nat))], [rowR 23 2 i.2.2.1 i.2.1 i.2.2.2 (ptCells (ptsG W i.1 0))], []⟩) (I := fun (i : Nat × Nat × Option Addr × Nat) => i.1 ≤ H + 1 ∧ i.2.1 = (ptsG W i.1 0).length ∧ i.2.1 ≤ 3 * i.1) (m := fun (i : Nat × Nat × Option Addr × Nat) => H + 1 - i.1) (0, 0, none, 0) (μr := []) ⟨Nat.zero_le _, rfl, Nat.le_refl _⟩ (And.intro rfl (And.intro rfl (And.intro rfl (And.intro rfl (And.intro rfl (And.intro rfl (And.intro rfl (trivial)))))))) (permI [] rfl) (fun _ h => nomatch h) ?_
 rintro ⟨y, n, A0, c0⟩ ⟨hy, hn, hnb⟩
 try dsimp only at hy
 try dsimp only at hn
 try dsimp only at hnb
 show CJ _ _ _ [(1, .int .i64 (H : Int)), (2, .int .u32 v), (3, .int .u32 fa), (4, .pointer (some ⟨b1, 0, none⟩)), (10, .slice A0 n c0), (34, .int .i64 ((H : Int) + 1)), (35, .int .i64 (y : Nat))] (rowR 23 2 A0 n c0 (ptCells (ptsG W y 0)) :: _) _
 refine CJ_seq ?_
 refine CJ_reg ?_
 refine LJ_y rfl rfl (YJ_bin rfl rfl rfl) ?_
 refine LJ_nil ?_
 refine QJ_then ?_
 refine CJ_seq ?_
 refine CJ_cond rfl (fun h36 => ?_) (fun h36 => ?_)
 ·simp only [decide_eq_true_eq] at h36
  refine CJ_skip ?_
  refine QJ_then ?_
  refine CJ_seq ?_
  refine CJ_block ?_
  refine CJ_seq ?_
  refine CJ_reg ?_
  refine LJ_y rfl rfl (YJ_move rfl) ?_
  refine LJ_y rfl rfl (YJ_assign rfl) ?_
  refine LJ_nil ?_
  refine QJ_then ?_
  refine CJ_seq ?_
  refine CJ_reg ?_
  refine LJ_y rfl rfl (YJ_loadFactP (A := some ⟨b1, 0, none⟩) (j := 0) rfl rfl tyi_3 m0 rfl) ?_
  refine LJ_y rfl rfl (YJ_bin rfl rfl (iop_add (by omega))) ?_
  refine LJ_y rfl rfl (YJ_move rfl) ?_
  refine LJ_nil ?_
  refine QJ_then ?_
  refine CJ_block ?_
  refine CJ_loopF (F := fun (i : Nat × Nat × Option Addr × Nat) => ⟨[(1, .int .i64 (H : Int)), (2, .int .u32 v), (3, .int .u32 fa), (4, .pointer (some ⟨b1, 0, none⟩)), (10, .slice i.2.2.1 i.2.1 i.2.2.2), (34, .int .i64 ((H : Int) + 1)), (35, .int .i64 (y : Nat)), (11, .int .i64 (y : Nat)), (39, .int .i64 ((W : Int) + 1)), (40, .int .i64 (i.1 : Nat))], [rowR 23 2 i.2.2.1 i.2.1 i.2.2.2 (ptCells (ptsG W y i.1))], []⟩) (I := fun (i : Nat × Nat × Option Addr × Nat) => i.1 ≤ W + 1 ∧ i.2.1 = (ptsG W y i.1).length ∧ i.2.1 ≤ 3 * y + i.1) (m := fun (i : Nat × Nat × Option Addr × Nat) => W + 1 - i.1) (0, n, A0, c0) (μr := []) ⟨Nat.zero_le _, hn, hnb⟩ (And.intro rfl (And.intro rfl (And.intro rfl (And.intro rfl (And.intro rfl (And.intro rfl (And.intro rfl (And.intro rfl (And.intro rfl (And.intro rfl (trivial))))))))))) (permI [] rfl) (fun _ h => nomatch h) ?_
  rintro ⟨x, n1, A1, c1⟩ ⟨hx, hn1, hnb1⟩
  try dsimp only at hx
  try dsimp only at hn1
  try dsimp only at hnb1
  show CJ _ _ _ [(1, .int .i64 (H : Int)), (2, .int .u32 v), (3, .int .u32 fa), (4, .pointer (some ⟨b1, 0, none⟩)), (10, .slice A1 n1 c1), (34, .int .i64 ((H : Int) + 1)), (35, .int .i64 (y : Nat)), (11, .int .i64 (y : Nat)), (39, .int .i64 ((W : Int) + 1)), (40, .int .i64 (x : Nat))] (rowR 23 2 A1 n1 c1 (ptCells (ptsG W y x)) :: _) _
  refine CJ_seq ?_
  refine CJ_reg ?_
  refine LJ_y rfl rfl (YJ_bin rfl rfl rfl) ?_
  refine LJ_nil ?_
  refine QJ_then ?_
  refine CJ_seq ?_
  refine CJ_cond rfl (fun h41 => ?_) (fun h41 => ?_)
  ·simp only [decide_eq_true_eq] at h41
   refine CJ_skip ?_
   refine QJ_then ?_
   refine CJ_seq ?_
   refine CJ_block ?_
   refine CJ_seq ?_
   refine CJ_reg ?_
   refine LJ_y rfl rfl (YJ_move rfl) ?_
   refine LJ_y rfl rfl (YJ_assign rfl) ?_
   refine LJ_nil ?_
   refine QJ_then ?_
   refine CJ_reg ?_
   refine LJ_y rfl rfl (YJ_move rfl) ?_
   refine LJ_y rfl rfl (YJ_move rfl) ?_
   refine LJ_y rfl rfl (YJ_bin rfl rfl (iop_mul (by omega))) ?_
   refine LJ_y rfl rfl (YJ_move rfl) ?_
   refine LJ_y rfl rfl (YJ_bin rfl rfl (iop_mul (by omega))) ?_
   refine LJ_y rfl rfl (YJ_build1 (cs := [_, _]) lay_23 rfl rfl rfl) ?_
   refine LJ_buildSliceN (vs := [_]) (cs := [_, _]) rfl rfl elt_26 zer_23 (by decide) (by decide) rfl rfl rfl rfl rfl ?_
   intro b2
   refine LJ_append 1 rfl rfl elt_26 zer_23 rfl rfl rfl rfl (Rd_own m0) rfl rfl (by omega) (by omega) (by decide) ((ptCells_app _ (2 * (x : Int), 2 * (y : Int))).trans (congrArg ptCells ptsG_x.symm)) ?_
   intro A9 c9
   show LJ _ _ _ _ _ (_ :: _ :: _) _
   refine LJ_y rfl rfl (YJ_assign rfl) ?_
   refine LJ_nil ?_
   refine QJ_in_normal ?_
   refine QJ_then ?_
   refine CJ_reg ?_
   refine LJ_y rfl rfl (YJ_bin rfl rfl (iop_add (by omega))) ?_
   refine LJ_y rfl rfl (YJ_move rfl) ?_
   refine LJ_nil ?_
   refine QJ_roundF (F := fun (i : Nat × Nat × Option Addr × Nat) => ⟨[(1, .int .i64 (H : Int)), (2, .int .u32 v), (3, .int .u32 fa), (4, .pointer (some ⟨b1, 0, none⟩)), (10, .slice i.2.2.1 i.2.1 i.2.2.2), (34, .int .i64 ((H : Int) + 1)), (35, .int .i64 (y : Nat)), (11, .int .i64 (y : Nat)), (39, .int .i64 ((W : Int) + 1)), (40, .int .i64 (i.1 : Nat))], [rowR 23 2 i.2.2.1 i.2.1 i.2.2.2 (ptCells (ptsG W y i.1))], []⟩) (I := fun (i : Nat × Nat × Option Addr × Nat) => i.1 ≤ W + 1 ∧ i.2.1 = (ptsG W y i.1).length ∧ i.2.1 ≤ 3 * y + i.1) (m := fun (i : Nat × Nat × Option Addr × Nat) => W + 1 - i.1) (i := (x, n1, A1, c1)) ((x + 1, n1 + 1, A9, c9)) (μd := [_]) ⟨by omega, by dsimp only; rw [ptsG_x, List.length_append, ← hn1]; rfl, by dsimp only; omega⟩ (by dsimp only; omega) (And.intro rfl (And.intro rfl (And.intro rfl (And.intro rfl (And.intro rfl (And.intro rfl (And.intro rfl (And.intro rfl (And.intro rfl (And.intro rfl (trivial))))))))))) (permI [1] rfl) (fun _ h => nomatch h) (fun _ h => h)
  ·simp only [decide_eq_false_iff_not] at h41
   have hx9 : W + 1 = x := by omega
   subst hx9
   rw [← ptsG_y] at hn1 ⊢
   have hW3 : W ≤ 2 := by omega
   refine CJ_exit ?_
   refine QJ_then_exit ?_
   refine QJ_then_exit ?_
   refine QJ_in_exit ?_
   refine QJ_in_normal ?_
   refine QJ_then ?_
   refine CJ_reg ?_
   refine LJ_y rfl rfl (YJ_bin rfl rfl (iop_add (by omega))) ?_
   refine LJ_y rfl rfl (YJ_move rfl) ?_
   refine LJ_nil ?_
   refine QJ_roundF (F := fun (i : Nat × Nat × Option Addr × Nat) => ⟨[(1, .int .i64 (H : Int)), (2, .int .u32 v), (3, .int .u32 fa), (4, .pointer (some ⟨b1, 0, none⟩)), (10, .slice i.2.2.1 i.2.1 i.2.2.2), (34, .int .i64 ((H : Int) + 1)), (35, .int .i64 (i.1 : Nat))], [rowR 23 2 i.2.2.1 i.2.1 i.2.2.2 (ptCells (ptsG W i.1 0))], []⟩) (I := fun (i : Nat × Nat × Option Addr × Nat) => i.1 ≤ H + 1 ∧ i.2.1 = (ptsG W i.1 0).length ∧ i.2.1 ≤ 3 * i.1) (m := fun (i : Nat × Nat × Option Addr × Nat) => H + 1 - i.1) (i := (y, n, A0, c0)) ((y + 1, n1, A1, c1)) (μd := []) ⟨by omega, hn1, by dsimp only; omega⟩ (by dsimp only; omega) (And.intro rfl (And.intro rfl (And.intro rfl (And.intro rfl (And.intro rfl (And.intro rfl (And.intro rfl (trivial)))))))) (permI [] rfl) (fun _ h => nomatch h) (fun _ h => h)
 ·simp only [decide_eq_false_iff_not] at h36
  have hy9 : H + 1 = y := by omega
  subst hy9
  subst hn
  refine CJ_exit ?_
  refine QJ_then_exit ?_
  refine QJ_then_exit ?_
  refine QJ_in_exit ?_
  refine QJ_then ?_
  refine CJ_seq ?_
  refine CJ_freezeRowK (n' := (gPts W H).length) (xs' := ptCells (gPts W H)) 0 rfl rfl rfl ?_
  show CJ _ _ _ _ (_) _
  refine CJ_reg ?_
  refine LJ_y rfl rfl (YJ_assign rfl) ?_
  refine LJ_nil ?_
  refine QJ_then ?_
  refine CJ_seq ?_
  refine CJ_newRow 34 3 ?_
  refine CJ_reg ?_
  refine LJ_y rfl rfl (YJ_makeFunc (vs := []) (us := [_]) rfl rfl) ?_
  refine LJ_y rfl rfl (YJ_assign rfl) ?_
  refine LJ_nil ?_
  refine QJ_then ?_
  refine CJ_seq ?_
  refine CJ_reg ?_
  refine LJ_y rfl rfl (YJ_assign rfl) ?_
  refine LJ_nil ?_
  refine QJ_then ?_
  refine CJ_seq ?_
  refine CJ_seq ?_
  refine CJ_reg ?_
  refine LJ_y rfl rfl (YJ_move rfl) ?_
  refine LJ_y rfl rfl (YJ_move rfl) ?_
  refine LJ_nil ?_
  refine QJ_then ?_
  refine CJ_block ?_
  refine CJ_loopF (F := fun (i : Nat × Nat × Option Addr × Nat) => ⟨[(1, .int .i64 (H : Int)), (2, .int .u32 v), (3, .int .u32 fa), (4, .pointer (some ⟨b1, 0, none⟩)), (10, .slice A0 (gPts W H).length c0), (14, .func (.func 57) #[] #[.pointer (some ⟨b1, 0, none⟩)]), (13, .slice i.2.2.1 i.2.1 i.2.2.2), (15, .int .i64 ((W * i.1 : Nat) : Int)), (54, .int .i64 (H : Int)), (55, .int .i64 (i.1 : Nat))], [rowR 34 3 i.2.2.1 i.2.1 i.2.2.2 (t3Cells (trisG W (bitN v) i.1 0))], []⟩) (I := fun (i : Nat × Nat × Option Addr × Nat) => i.1 ≤ H ∧ i.2.1 = (trisG W (bitN v) i.1 0).length ∧ i.2.1 ≤ 4 * i.1) (m := fun (i : Nat × Nat × Option Addr × Nat) => H - i.1) (0, 0, none, 0) (μr := []) ⟨Nat.zero_le _, rfl, Nat.le_refl _⟩ (And.intro rfl (And.intro rfl (And.intro rfl (And.intro rfl (And.intro rfl (And.intro rfl (And.intro rfl (And.intro rfl (And.intro rfl (And.intro rfl (trivial))))))))))) (permI [] rfl) (fun _ h => nomatch h) ?_
  rintro ⟨y, n, TA, cT⟩ ⟨hy, hn, hnb⟩
  try dsimp only at hy
  try dsimp only at hn
  try dsimp only at hnb
  show CJ _ _ _ [(1, .int .i64 (H : Int)), (2, .int .u32 v), (3, .int .u32 fa), (4, .pointer (some ⟨b1, 0, none⟩)), (10, .slice A0 (gPts W H).length c0), (14, .func (.func 57) #[] #[.pointer (some ⟨b1, 0, none⟩)]), (13, .slice TA n cT), (15, .int .i64 ((W * y : Nat) : Int)), (54, .int .i64 (H : Int)), (55, .int .i64 (y : Nat))] (rowR 34 3 TA n cT (t3Cells (trisG W (bitN v) y 0)) :: _) _
  refine CJ_seq ?_
  refine CJ_reg ?_
  refine LJ_y rfl rfl (YJ_bin rfl rfl rfl) ?_
  refine LJ_nil ?_
  refine QJ_then ?_
  refine CJ_seq ?_
  refine CJ_cond rfl (fun h56 => ?_) (fun h56 => ?_)
  ·simp only [decide_eq_true_eq] at h56
   refine CJ_skip ?_
   refine QJ_then ?_
   refine CJ_seq ?_
   refine CJ_block ?_
   refine CJ_seq ?_
   refine CJ_reg ?_
   refine LJ_y rfl rfl (YJ_move rfl) ?_
   refine LJ_y rfl rfl (YJ_assign rfl) ?_
   refine LJ_nil ?_
   refine QJ_then ?_
   refine CJ_seq ?_
   refine CJ_reg ?_
   refine LJ_y rfl rfl (YJ_loadFactP (A := some ⟨b1, 0, none⟩) (j := 0) rfl rfl tyi_3 m1 rfl) ?_
   refine LJ_y rfl rfl (YJ_move rfl) ?_
   refine LJ_nil ?_
   refine QJ_then ?_
   refine CJ_block ?_
   refine CJ_loopF (F := fun (i : Nat × Nat × Option Addr × Nat) => ⟨[(1, .int .i64 (H : Int)), (2, .int .u32 v), (3, .int .u32 fa), (4, .pointer (some ⟨b1, 0, none⟩)), (10, .slice A0 (gPts W H).length c0), (14, .func (.func 57) #[] #[.pointer (some ⟨b1, 0, none⟩)]), (13, .slice i.2.2.1 i.2.1 i.2.2.2), (15, .int .i64 ((W * y + i.1 : Nat) : Int)), (54, .int .i64 (H : Int)), (55, .int .i64 (y : Nat)), (16, .int .i64 (y : Nat)), (58, .int .i64 (W : Int)), (59, .int .i64 (i.1 : Nat))], [rowR 34 3 i.2.2.1 i.2.1 i.2.2.2 (t3Cells (trisG W (bitN v) y i.1))], []⟩) (I := fun (i : Nat × Nat × Option Addr × Nat) => i.1 ≤ W ∧ i.2.1 = (trisG W (bitN v) y i.1).length ∧ i.2.1 ≤ 4 * y + 2 * i.1) (m := fun (i : Nat × Nat × Option Addr × Nat) => W - i.1) (0, n, TA, cT) (μr := []) ⟨Nat.zero_le _, hn, hnb⟩ (And.intro rfl (And.intro rfl (And.intro rfl (And.intro rfl (And.intro rfl (And.intro rfl (And.intro rfl (And.intro rfl (And.intro rfl (And.intro rfl (And.intro rfl (And.intro rfl (And.intro rfl (trivial)))))))))))))) (permI [] rfl) (fun _ h => nomatch h) ?_
   rintro ⟨x, n1, A1, c1⟩ ⟨hx, hn1, hnb1⟩
   try dsimp only at hx
   try dsimp only at hn1
   try dsimp only at hnb1
   show CJ _ _ _ [(1, .int .i64 (H : Int)), (2, .int .u32 v), (3, .int .u32 fa), (4, .pointer (some ⟨b1, 0, none⟩)), (10, .slice A0 (gPts W H).length c0), (14, .func (.func 57) #[] #[.pointer (some ⟨b1, 0, none⟩)]), (13, .slice A1 n1 c1), (15, .int .i64 ((W * y + x : Nat) : Int)), (54, .int .i64 (H : Int)), (55, .int .i64 (y : Nat)), (16, .int .i64 (y : Nat)), (58, .int .i64 (W : Int)), (59, .int .i64 (x : Nat))] (rowR 34 3 A1 n1 c1 (t3Cells (trisG W (bitN v) y x)) :: _) _
   have hyW : W * y ≤ 4 := by rcases hW with rfl | rfl <;> omega
   refine CJ_seq ?_
   refine CJ_reg ?_
   refine LJ_y rfl rfl (YJ_bin rfl rfl rfl) ?_
   refine LJ_nil ?_
   refine QJ_then ?_
   refine CJ_seq ?_
   refine CJ_cond rfl (fun h60 => ?_) (fun h60 => ?_)
   ·simp only [decide_eq_true_eq] at h60
    refine CJ_skip ?_
    refine QJ_then ?_
    refine CJ_seq ?_
    refine CJ_block ?_
    refine CJ_seq ?_
    refine CJ_reg ?_
    refine LJ_y rfl rfl (YJ_move rfl) ?_
    refine LJ_y rfl rfl (YJ_assign rfl) ?_
    refine LJ_nil ?_
    refine QJ_then ?_
    refine CJ_seq ?_
    refine CJ_reg ?_
    refine LJ_y rfl rfl (YJ_move rfl) ?_
    refine LJ_y rfl rfl (YJ_move rfl) ?_
    refine LJ_y rfl rfl (YJ_move rfl) ?_
    refine LJ_call0 rfl rfl rfl rfl rfl (at_c (W := W) (x := ((x : Nat) : Int)) (y := ((y : Nat) : Int)) hW (by omega) (by omega)) (AllIn.sub (And.intro m1 trivial)) ?_
    refine LJ_y rfl rfl (YJ_move rfl) ?_
    refine LJ_y rfl rfl (YJ_move rfl) ?_
    refine LJ_y rfl rfl (YJ_bin rfl rfl (iop_add (by omega))) ?_
    refine LJ_y rfl rfl (YJ_move rfl) ?_
    refine LJ_call0 rfl rfl rfl rfl rfl (at_c (W := W) (x := ((x : Nat) : Int) + 1) (y := ((y : Nat) : Int)) hW (by omega) (by omega)) (AllIn.sub (And.intro m1 trivial)) ?_
    refine LJ_y rfl rfl (YJ_move rfl) ?_
    refine LJ_y rfl rfl (YJ_move rfl) ?_
    refine LJ_y rfl rfl (YJ_bin rfl rfl (iop_add (by omega))) ?_
    refine LJ_y rfl rfl (YJ_move rfl) ?_
    refine LJ_y rfl rfl (YJ_bin rfl rfl (iop_add (by omega))) ?_
    refine LJ_call0 rfl rfl rfl rfl rfl (at_c (W := W) (x := ((x : Nat) : Int) + 1) (y := ((y : Nat) : Int) + 1) hW (by omega) (by omega)) (AllIn.sub (And.intro m1 trivial)) ?_
    refine LJ_y rfl rfl (YJ_move rfl) ?_
    refine LJ_y rfl rfl (YJ_move rfl) ?_
    refine LJ_y rfl rfl (YJ_move rfl) ?_
    refine LJ_y rfl rfl (YJ_bin rfl rfl (iop_add (by omega))) ?_
    refine LJ_call0 rfl rfl rfl rfl rfl (at_c (W := W) (x := ((x : Nat) : Int)) (y := ((y : Nat) : Int) + 1) hW (by omega) (by omega)) (AllIn.sub (And.intro m1 trivial)) ?_
    refine LJ_y rfl rfl (YJ_assign rfl) ?_
    refine LJ_y rfl rfl (YJ_assign rfl) ?_
    refine LJ_y rfl rfl (YJ_assign rfl) ?_
    refine LJ_y rfl rfl (YJ_assign rfl) ?_
    refine LJ_nil ?_
    refine QJ_then ?_
    refine CJ_seq ?_
    refine CJ_seq ?_
    refine CJ_reg ?_
    refine LJ_y rfl rfl (YJ_move rfl) ?_
    refine LJ_y rfl rfl (YJ_move rfl) ?_
    refine LJ_y rfl rfl (YJ_shr rfl rfl (Int.natCast_nonneg _)) ?_
    refine LJ_y rfl rfl (YJ_andU rfl rfl (Int.ediv_nonneg hv.1 (Int.le_of_lt (Int.pow_pos (by decide))))) ?_
    refine LJ_y rfl rfl (YJ_bin rfl rfl rfl) ?_
    refine LJ_nil ?_
    refine QJ_then ?_
    refine CJ_cond rfl (fun h86 => ?_) (fun h86 => ?_)
    ·simp only [decide_eq_true_eq] at h86
     have hb86 : bitN v (W * y + x) = true := decide_eq_true (p := v / 2 ^ min (W * y + x) 32 % 2 = 1) h86
     refine CJ_reg ?_
     refine LJ_y rfl rfl (YJ_move rfl) ?_
     refine LJ_y rfl rfl (YJ_move rfl) ?_
     refine LJ_y rfl rfl (YJ_move rfl) ?_
     refine LJ_y rfl rfl (YJ_move rfl) ?_
     refine LJ_y rfl rfl (YJ_build1 (cs := [_, _, _]) lay_34 rfl rfl rfl) ?_
     refine LJ_y rfl rfl (YJ_move rfl) ?_
     refine LJ_y rfl rfl (YJ_move rfl) ?_
     refine LJ_y rfl rfl (YJ_move rfl) ?_
     refine LJ_y rfl rfl (YJ_build1 (cs := [_, _, _]) lay_34 rfl rfl rfl) ?_
     refine LJ_buildSliceN (vs := [_, _]) (cs := [_, _, _, _, _, _]) rfl rfl elt_47 zer_34 (by decide) (by decide) rfl rfl rfl rfl rfl ?_
     intro b3
     refine LJ_append 1 rfl rfl elt_47 zer_34 rfl rfl rfl rfl (Rd_own m0) rfl rfl (by omega) (by omega) (by decide) (t3_T hb86) ?_
     intro A9 c9
     show LJ _ _ _ _ _ (_ :: _ :: _) _
     refine LJ_y rfl rfl (YJ_assign rfl) ?_
     refine LJ_nil ?_
     refine QJ_then ?_
     refine CJ_reg ?_
     refine LJ_y rfl rfl (YJ_move rfl) ?_
     refine LJ_y rfl rfl (YJ_bin rfl rfl (iop_add (by omega))) ?_
     refine LJ_val (v := .int .i64 ((W * y + (x + 1) : Nat) : Int)) (congrArg (Value.int .i64) (by omega)) ?_
     refine LJ_y rfl rfl (YJ_assign rfl) ?_
     refine LJ_nil ?_
     refine QJ_in_normal ?_
     refine QJ_then ?_
     refine CJ_reg ?_
     refine LJ_y rfl rfl (YJ_bin rfl rfl (iop_add (by omega))) ?_
     refine LJ_y rfl rfl (YJ_move rfl) ?_
     refine LJ_nil ?_
     refine QJ_roundF (F := fun (i : Nat × Nat × Option Addr × Nat) => ⟨[(1, .int .i64 (H : Int)), (2, .int .u32 v), (3, .int .u32 fa), (4, .pointer (some ⟨b1, 0, none⟩)), (10, .slice A0 (gPts W H).length c0), (14, .func (.func 57) #[] #[.pointer (some ⟨b1, 0, none⟩)]), (13, .slice i.2.2.1 i.2.1 i.2.2.2), (15, .int .i64 ((W * y + i.1 : Nat) : Int)), (54, .int .i64 (H : Int)), (55, .int .i64 (y : Nat)), (16, .int .i64 (y : Nat)), (58, .int .i64 (W : Int)), (59, .int .i64 (i.1 : Nat))], [rowR 34 3 i.2.2.1 i.2.1 i.2.2.2 (t3Cells (trisG W (bitN v) y i.1))], []⟩) (I := fun (i : Nat × Nat × Option Addr × Nat) => i.1 ≤ W ∧ i.2.1 = (trisG W (bitN v) y i.1).length ∧ i.2.1 ≤ 4 * y + 2 * i.1) (m := fun (i : Nat × Nat × Option Addr × Nat) => W - i.1) (i := (x, n1, A1, c1)) ((x + 1, n1 + 2, A9, c9)) (μd := [_]) ⟨by omega, by dsimp only; rw [trisG_x, List.length_append, tri2_len, ← hn1], by dsimp only; omega⟩ (by dsimp only; omega) (And.intro rfl (And.intro rfl (And.intro rfl (And.intro rfl (And.intro rfl (And.intro rfl (And.intro rfl (And.intro rfl (And.intro rfl (And.intro rfl (And.intro rfl (And.intro rfl (And.intro rfl (trivial)))))))))))))) (permI [1] rfl) (fun _ h => nomatch h) (fun _ h => h)
    ·simp only [decide_eq_false_iff_not] at h86
     have hb86 : bitN v (W * y + x) = false := decide_eq_false (p := v / 2 ^ min (W * y + x) 32 % 2 = 1) h86
     refine CJ_reg ?_
     refine LJ_y rfl rfl (YJ_move rfl) ?_
     refine LJ_y rfl rfl (YJ_move rfl) ?_
     refine LJ_y rfl rfl (YJ_move rfl) ?_
     refine LJ_y rfl rfl (YJ_move rfl) ?_
     refine LJ_y rfl rfl (YJ_build1 (cs := [_, _, _]) lay_34 rfl rfl rfl) ?_
     refine LJ_y rfl rfl (YJ_move rfl) ?_
     refine LJ_y rfl rfl (YJ_move rfl) ?_
     refine LJ_y rfl rfl (YJ_move rfl) ?_
     refine LJ_y rfl rfl (YJ_build1 (cs := [_, _, _]) lay_34 rfl rfl rfl) ?_
     refine LJ_buildSliceN (vs := [_, _]) (cs := [_, _, _, _, _, _]) rfl rfl elt_47 zer_34 (by decide) (by decide) rfl rfl rfl rfl rfl ?_
     intro b4
     refine LJ_append 1 rfl rfl elt_47 zer_34 rfl rfl rfl rfl (Rd_own m0) rfl rfl (by omega) (by omega) (by decide) (t3_F hb86) ?_
     intro A9 c9
     show LJ _ _ _ _ _ (_ :: _ :: _) _
     refine LJ_y rfl rfl (YJ_assign rfl) ?_
     refine LJ_nil ?_
     refine QJ_then ?_
     refine CJ_reg ?_
     refine LJ_y rfl rfl (YJ_move rfl) ?_
     refine LJ_y rfl rfl (YJ_bin rfl rfl (iop_add (by omega))) ?_
     refine LJ_val (v := .int .i64 ((W * y + (x + 1) : Nat) : Int)) (congrArg (Value.int .i64) (by omega)) ?_
     refine LJ_y rfl rfl (YJ_assign rfl) ?_
     refine LJ_nil ?_
     refine QJ_in_normal ?_
     refine QJ_then ?_
     refine CJ_reg ?_
     refine LJ_y rfl rfl (YJ_bin rfl rfl (iop_add (by omega))) ?_
     refine LJ_y rfl rfl (YJ_move rfl) ?_
     refine LJ_nil ?_
     refine QJ_roundF (F := fun (i : Nat × Nat × Option Addr × Nat) => ⟨[(1, .int .i64 (H : Int)), (2, .int .u32 v), (3, .int .u32 fa), (4, .pointer (some ⟨b1, 0, none⟩)), (10, .slice A0 (gPts W H).length c0), (14, .func (.func 57) #[] #[.pointer (some ⟨b1, 0, none⟩)]), (13, .slice i.2.2.1 i.2.1 i.2.2.2), (15, .int .i64 ((W * y + i.1 : Nat) : Int)), (54, .int .i64 (H : Int)), (55, .int .i64 (y : Nat)), (16, .int .i64 (y : Nat)), (58, .int .i64 (W : Int)), (59, .int .i64 (i.1 : Nat))], [rowR 34 3 i.2.2.1 i.2.1 i.2.2.2 (t3Cells (trisG W (bitN v) y i.1))], []⟩) (I := fun (i : Nat × Nat × Option Addr × Nat) => i.1 ≤ W ∧ i.2.1 = (trisG W (bitN v) y i.1).length ∧ i.2.1 ≤ 4 * y + 2 * i.1) (m := fun (i : Nat × Nat × Option Addr × Nat) => W - i.1) (i := (x, n1, A1, c1)) ((x + 1, n1 + 2, A9, c9)) (μd := [_]) ⟨by omega, by dsimp only; rw [trisG_x, List.length_append, tri2_len, ← hn1], by dsimp only; omega⟩ (by dsimp only; omega) (And.intro rfl (And.intro rfl (And.intro rfl (And.intro rfl (And.intro rfl (And.intro rfl (And.intro rfl (And.intro rfl (And.intro rfl (And.intro rfl (And.intro rfl (And.intro rfl (And.intro rfl (trivial)))))))))))))) (permI [1] rfl) (fun _ h => nomatch h) (fun _ h => h)
   ·simp only [decide_eq_false_iff_not] at h60
    have hx9 : W = x := by omega
    subst hx9
    rw [← trisG_y] at hn1 ⊢
    have hW3 : W ≤ 2 := by omega
    refine CJ_exit ?_
    refine QJ_then_exit ?_
    refine QJ_then_exit ?_
    refine QJ_in_exit ?_
    refine QJ_in_normal ?_
    refine QJ_then ?_
    refine CJ_reg ?_
    refine LJ_y rfl rfl (YJ_bin rfl rfl (iop_add (by omega))) ?_
    refine LJ_y rfl rfl (YJ_move rfl) ?_
    refine LJ_nil ?_
    refine QJ_roundF (F := fun (i : Nat × Nat × Option Addr × Nat) => ⟨[(1, .int .i64 (H : Int)), (2, .int .u32 v), (3, .int .u32 fa), (4, .pointer (some ⟨b1, 0, none⟩)), (10, .slice A0 (gPts W H).length c0), (14, .func (.func 57) #[] #[.pointer (some ⟨b1, 0, none⟩)]), (13, .slice i.2.2.1 i.2.1 i.2.2.2), (15, .int .i64 ((W * i.1 : Nat) : Int)), (54, .int .i64 (H : Int)), (55, .int .i64 (i.1 : Nat))], [rowR 34 3 i.2.2.1 i.2.1 i.2.2.2 (t3Cells (trisG W (bitN v) i.1 0))], []⟩) (I := fun (i : Nat × Nat × Option Addr × Nat) => i.1 ≤ H ∧ i.2.1 = (trisG W (bitN v) i.1 0).length ∧ i.2.1 ≤ 4 * i.1) (m := fun (i : Nat × Nat × Option Addr × Nat) => H - i.1) (i := (y, n, TA, cT)) ((y + 1, n1, A1, c1)) (μd := []) ⟨by omega, hn1, by dsimp only; omega⟩ (by dsimp only; omega) (And.intro rfl (And.intro rfl (And.intro rfl (And.intro rfl (And.intro rfl (And.intro rfl (And.intro rfl (And.intro rfl (And.intro rfl (And.intro rfl (trivial))))))))))) (permI [] rfl) (fun _ h => nomatch h) (fun _ h => h)
  ·simp only [decide_eq_false_iff_not] at h56
   have hy9 : H = y := by omega
   subst hy9
   subst hn
   have hTl : (gTris W H (bitN v)).length ≤ 8 := by show (trisG W (bitN v) H 0).length ≤ 8; omega
   refine CJ_exit ?_
   refine QJ_then_exit ?_
   refine QJ_then_exit ?_
   refine QJ_in_exit ?_
   refine QJ_then ?_
   refine CJ_seq ?_
   refine CJ_freezeRowK (n' := (gTris W H (bitN v)).length) (xs' := t3Cells (gTris W H (bitN v))) 0 rfl rfl rfl ?_
   show CJ _ _ _ _ (_) _
   refine CJ_reg ?_
   refine LJ_makeMap rfl rfl ?_
   intro fm
   refine LJ_y rfl rfl (YJ_assign rfl) ?_
   refine LJ_nil ?_
   refine QJ_then ?_
   refine CJ_seq ?_
   refine CJ_reg ?_
   refine LJ_y rfl rfl (YJ_assign rfl) ?_
   refine LJ_nil ?_
   refine QJ_then ?_
   refine CJ_seq ?_
   refine CJ_seq ?_
   refine CJ_reg ?_
   refine LJ_y rfl rfl (YJ_move rfl) ?_
   refine LJ_y rfl rfl (YJ_len rfl ulen_47 rfl) ?_
   refine LJ_y rfl rfl (YJ_move rfl) ?_
   refine LJ_nil ?_
   refine QJ_then ?_
   refine CJ_block ?_
   refine CJ_loopF (F := fun (i : Nat × Nat × MapI × Nat) => ⟨[(1, .int .i64 (H : Int)), (2, .int .u32 v), (3, .int .u32 fa), (4, .pointer (some ⟨b1, 0, none⟩)), (10, .slice A0 (gPts W H).length c0), (13, .slice TA (gTris W H (bitN v)).length cT), (22, .map (some fm)), (23, .int .i64 (i.2.1 : Nat)), (114, .slice TA (gTris W H (bitN v)).length cT), (115, .int .i64 ((gTris W H (bitN v)).length : Nat)), (116, .int .i64 (i.1 : Nat))], [mapR fm fK gI i.2.2.1 i.2.2.2], []⟩) (I := fun (i : Nat × Nat × MapI × Nat) => i.1 ≤ (gTris W H (bitN v)).length ∧ (fa = 0 → i.2.2.1 = []) ∧ i.2.1 ≤ 3 * i.1) (m := fun (i : Nat × Nat × MapI × Nat) => (gTris W H (bitN v)).length - i.1) (0, 0, [], 0) (μr := []) ⟨Nat.zero_le _, fun _ => rfl, Nat.le_refl _⟩ (And.intro rfl (And.intro rfl (And.intro rfl (And.intro rfl (And.intro rfl (And.intro rfl (And.intro rfl (And.intro rfl (And.intro rfl (And.intro rfl (And.intro rfl (trivial)))))))))))) (permI [] rfl) (fun _ h => nomatch h) ?_
   rintro ⟨k, n, F, cF⟩ ⟨hk, hF, hnb⟩
   try dsimp only at hk
   try dsimp only at hF
   try dsimp only at hnb
   show CJ _ _ _ [(1, .int .i64 (H : Int)), (2, .int .u32 v), (3, .int .u32 fa), (4, .pointer (some ⟨b1, 0, none⟩)), (10, .slice A0 (gPts W H).length c0), (13, .slice TA (gTris W H (bitN v)).length cT), (22, .map (some fm)), (23, .int .i64 (n : Nat)), (114, .slice TA (gTris W H (bitN v)).length cT), (115, .int .i64 ((gTris W H (bitN v)).length : Nat)), (116, .int .i64 (k : Nat))] (mapR fm fK gI F cF :: _) _
   refine CJ_seq ?_
   refine CJ_reg ?_
   refine LJ_y rfl rfl (YJ_bin rfl rfl rfl) ?_
   refine LJ_nil ?_
   refine QJ_then ?_
   refine CJ_seq ?_
   refine CJ_cond rfl (fun h117 => ?_) (fun h117 => ?_)
   ·simp only [decide_eq_true_eq] at h117
    obtain ⟨x, hx⟩ := get_at (l := gTris W H (bitN v)) h117
    refine CJ_skip ?_
    refine QJ_then ?_
    refine CJ_seq ?_
    refine CJ_block ?_
    refine CJ_seq ?_
    refine CJ_reg ?_
    refine LJ_y rfl rfl (YJ_ixFact (n' := (gTris W H (bitN v)).length) rfl rfl elt_47 m0 (by decide) (by omega) (by omega) (by omega)) ?_
    refine LJ_y rfl rfl (YJ_loadFactN (vs := [.int .i64 x.1, .int .i64 x.2.1, .int .i64 x.2.2]) (xs := t3Cells (gTris W H (bitN v))) rfl tyi_34 m0 (t3_row hx) rfl) ?_
    refine LJ_alloc (cs := #[_, _, _]) rfl rfl zer_34 rfl ?_
    intro b6
    refine LJ_store (cs' := #[_, _, _]) (μ' := [_, _]) 0 rfl rfl rfl rfl tyi_34 rfl (Nat.le_of_ble_eq_true rfl) rfl rfl rfl ?_
    refine LJ_nil ?_
    refine QJ_then ?_
    refine CJ_seq ?_
    refine CJ_reg ?_
    refine LJ_y rfl rfl (YJ_move rfl) ?_
    refine LJ_nil ?_
    refine QJ_then ?_
    refine CJ_block ?_
    refine CJ_loopF (F := fun (i : Nat × Nat × MapI × Nat) => ⟨[(1, .int .i64 (H : Int)), (2, .int .u32 v), (3, .int .u32 fa), (4, .pointer (some ⟨b1, 0, none⟩)), (10, .slice A0 (gPts W H).length c0), (13, .slice TA (gTris W H (bitN v)).length cT), (22, .map (some fm)), (23, .int .i64 (i.2.1 : Nat)), (114, .slice TA (gTris W H (bitN v)).length cT), (115, .int .i64 ((gTris W H (bitN v)).length : Nat)), (116, .int .i64 (k : Nat)), (25, .pointer (some ⟨b6, 0, none⟩)), (120, .int .i64 (i.1 : Nat))], [mapR fm fK gI i.2.2.1 i.2.2.2, cellsR b6 #[.int .i64 x.1, .int .i64 x.2.1, .int .i64 x.2.2] 34], []⟩) (I := fun (i : Nat × Nat × MapI × Nat) => i.1 ≤ 3 ∧ (fa = 0 → i.2.2.1 = []) ∧ i.2.1 ≤ 3 * k + i.1) (m := fun (i : Nat × Nat × MapI × Nat) => 3 - i.1) (0, n, F, cF) (μr := []) ⟨Nat.zero_le _, hF, hnb⟩ (And.intro rfl (And.intro rfl (And.intro rfl (And.intro rfl (And.intro rfl (And.intro rfl (And.intro rfl (And.intro rfl (And.intro rfl (And.intro rfl (And.intro rfl (And.intro rfl (And.intro rfl (trivial)))))))))))))) (permI [1] rfl) (fun _ h => nomatch h) ?_
    rintro ⟨j, n1, F1, cF1⟩ ⟨hj, hF1, hnb1⟩
    try dsimp only at hj
    try dsimp only at hF1
    try dsimp only at hnb1
    show CJ _ _ _ [(1, .int .i64 (H : Int)), (2, .int .u32 v), (3, .int .u32 fa), (4, .pointer (some ⟨b1, 0, none⟩)), (10, .slice A0 (gPts W H).length c0), (13, .slice TA (gTris W H (bitN v)).length cT), (22, .map (some fm)), (23, .int .i64 (n1 : Nat)), (114, .slice TA (gTris W H (bitN v)).length cT), (115, .int .i64 ((gTris W H (bitN v)).length : Nat)), (116, .int .i64 (k : Nat)), (25, .pointer (some ⟨b6, 0, none⟩)), (120, .int .i64 (j : Nat))] (mapR fm fK gI F1 cF1 :: cellsR b6 #[.int .i64 x.1, .int .i64 x.2.1, .int .i64 x.2.2] 34 :: _) _
    refine CJ_seq ?_
    refine CJ_reg ?_
    refine LJ_y rfl rfl (YJ_bin rfl rfl rfl) ?_
    refine LJ_nil ?_
    refine QJ_then ?_
    refine CJ_seq ?_
    refine CJ_cond rfl (fun h121 => ?_) (fun h121 => ?_)
    ·simp only [decide_eq_true_eq] at h121
     refine CJ_skip ?_
     refine QJ_then ?_
     refine CJ_seq ?_
     refine CJ_block ?_
     refine CJ_seq ?_
     refine CJ_reg ?_
     rcases (by omega : j = 0 ∨ j = 1 ∨ j = 2) with rfl | rfl | rfl
     ·skip
      refine LJ_y rfl rfl (YJ_move rfl) ?_
      refine LJ_y rfl rfl (YJ_assign rfl) ?_
      refine LJ_nil ?_
      refine QJ_then ?_
      refine CJ_seq ?_
      refine CJ_seq ?_
      refine CJ_reg ?_
      refine LJ_y rfl rfl (YJ_move rfl) ?_
      refine LJ_y rfl rfl (YJ_move rfl) ?_
      refine LJ_y rfl rfl (YJ_rem rfl rfl (by first | decide | omega)) ?_
      refine LJ_y rfl rfl (YJ_shr rfl rfl (Int.tmod_nonneg _ (by omega))) ?_
      refine LJ_y rfl rfl (YJ_andU rfl rfl (Int.ediv_nonneg hf.1 (Int.le_of_lt (Int.pow_pos (by decide))))) ?_
      refine LJ_y rfl rfl (YJ_bin rfl rfl rfl) ?_
      refine LJ_nil ?_
      refine QJ_then ?_
      refine CJ_cond rfl (fun h128 => ?_) (fun h128 => ?_)
      ·simp only [decide_eq_true_eq] at h128
       refine CJ_regD mix (by kernel_rfl) (fun _ _ _ _ _ h => h) (selR [1] _) _ (selR_sub _ _) (fun _ h => h) ?_
       refine AJ_y 0 rfl (by kernel_rfl) (by kernel_rfl) rfl rfl (YJ_move rfl) ?_
       refine AJ_y 1 rfl (by kernel_rfl) (by kernel_rfl) rfl rfl (YJ_move rfl) ?_
       refine AJ_val (v := .int .i64 0) (rfl) ?_
       refine AJ_y 2 rfl (by kernel_rfl) (by kernel_rfl) rfl rfl (YJ_ixArr rfl rfl arrt_34 (by omega) (by omega) rfl) ?_
       refine AJ_y 3 rfl (by kernel_rfl) (by kernel_rfl) rfl rfl (YJ_loadL rfl tyi_3 m0 rfl) ?_
       refine AJ_y 4 rfl (by kernel_rfl) (by kernel_rfl) rfl rfl (YJ_move rfl) ?_
       refine AJ_y 5 rfl (by kernel_rfl) (by kernel_rfl) rfl rfl (YJ_bin rfl rfl (iop_add (by omega))) ?_
       refine AJ_y 6 rfl (by kernel_rfl) (by kernel_rfl) rfl rfl (YJ_rem rfl rfl (by first | decide | omega)) ?_
       refine AJ_val (v := .int .i64 1) (rfl) ?_
       refine AJ_y 7 rfl (by kernel_rfl) (by kernel_rfl) rfl rfl (YJ_ixArr rfl rfl arrt_34 (by omega) (by omega) rfl) ?_
       refine AJ_y 8 rfl (by kernel_rfl) (by kernel_rfl) rfl rfl (YJ_loadL rfl tyi_3 m0 rfl) ?_
       refine AJ_y 9 rfl (by kernel_rfl) (by kernel_rfl) rfl rfl (YJ_min2 rfl rfl) ?_
       refine AJ_y 10 rfl (by kernel_rfl) (by kernel_rfl) rfl rfl (YJ_move rfl) ?_
       refine AJ_val (v := .int .i64 0) (rfl) ?_
       refine AJ_y 11 rfl (by kernel_rfl) (by kernel_rfl) rfl rfl (YJ_ixArr rfl rfl arrt_34 (by omega) (by omega) rfl) ?_
       refine AJ_y 12 rfl (by kernel_rfl) (by kernel_rfl) rfl rfl (YJ_loadL rfl tyi_3 m0 rfl) ?_
       refine AJ_y 13 rfl (by kernel_rfl) (by kernel_rfl) rfl rfl (YJ_move rfl) ?_
       refine AJ_y 14 rfl (by kernel_rfl) (by kernel_rfl) rfl rfl (YJ_bin rfl rfl (iop_add (by omega))) ?_
       refine AJ_y 15 rfl (by kernel_rfl) (by kernel_rfl) rfl rfl (YJ_rem rfl rfl (by first | decide | omega)) ?_
       refine AJ_val (v := .int .i64 1) (rfl) ?_
       refine AJ_y 16 rfl (by kernel_rfl) (by kernel_rfl) rfl rfl (YJ_ixArr rfl rfl arrt_34 (by omega) (by omega) rfl) ?_
       refine AJ_y 17 rfl (by kernel_rfl) (by kernel_rfl) rfl rfl (YJ_loadL rfl tyi_3 m0 rfl) ?_
       refine AJ_y 18 rfl (by kernel_rfl) (by kernel_rfl) rfl rfl (YJ_max2 rfl rfl) ?_
       refine AJ_y 19 rfl (by kernel_rfl) (by kernel_rfl) rfl rfl (YJ_build1 (cs := [_, _]) lay_46 rfl rfl rfl) ?_
       refine AJ_mapUpdate (f := fK) (g := gI) (k := (min (x.1) (x.2.1), max (x.1) (x.2.1))) (v := (1 : Int)) 20 0 rfl (by kernel_rfl) rfl rfl rfl rfl rfl umap_116 keyO rfl rfl (AllIn.sub (And.intro m1 (trivial))) ?_
       show AJ _ _ _ _ _ _ _ _ (_ :: _ :: _) _
       refine AJ_done (by kernel_rfl) ?_
       refine QJ_then ?_
       refine CJ_reg ?_
       refine LJ_y rfl rfl (YJ_move rfl) ?_
       refine LJ_y rfl rfl (YJ_bin rfl rfl (iop_add (by omega))) ?_
       refine LJ_y rfl rfl (YJ_assign rfl) ?_
       refine LJ_nil ?_
       refine QJ_in_normal ?_
       refine QJ_then ?_
       refine CJ_reg ?_
       refine LJ_y rfl rfl (YJ_bin rfl rfl (iop_add (by omega))) ?_
       refine LJ_y rfl rfl (YJ_move rfl) ?_
       refine LJ_nil ?_
       refine QJ_roundF (F := fun (i : Nat × Nat × MapI × Nat) => ⟨[(1, .int .i64 (H : Int)), (2, .int .u32 v), (3, .int .u32 fa), (4, .pointer (some ⟨b1, 0, none⟩)), (10, .slice A0 (gPts W H).length c0), (13, .slice TA (gTris W H (bitN v)).length cT), (22, .map (some fm)), (23, .int .i64 (i.2.1 : Nat)), (114, .slice TA (gTris W H (bitN v)).length cT), (115, .int .i64 ((gTris W H (bitN v)).length : Nat)), (116, .int .i64 (k : Nat)), (25, .pointer (some ⟨b6, 0, none⟩)), (120, .int .i64 (i.1 : Nat))], [mapR fm fK gI i.2.2.1 i.2.2.2, cellsR b6 #[.int .i64 x.1, .int .i64 x.2.1, .int .i64 x.2.2] 34], []⟩) (I := fun (i : Nat × Nat × MapI × Nat) => i.1 ≤ 3 ∧ (fa = 0 → i.2.2.1 = []) ∧ i.2.1 ≤ 3 * k + i.1) (m := fun (i : Nat × Nat × MapI × Nat) => 3 - i.1) (i := (_, n1, F1, cF1)) ((1, n1 + 1, mput (min (x.1) (x.2.1), max (x.1) (x.2.1)) (1 : Int) F1 cF1, mclk (min (x.1) (x.2.1), max (x.1) (x.2.1)) F1 cF1)) (μd := []) ⟨by omega, fun q => by subst q; simp at h128, by dsimp only; omega⟩ (by dsimp only; omega) (And.intro rfl (And.intro rfl (And.intro rfl (And.intro rfl (And.intro rfl (And.intro rfl (And.intro rfl (And.intro rfl (And.intro rfl (And.intro rfl (And.intro rfl (And.intro rfl (And.intro rfl (trivial)))))))))))))) (permI [] rfl) (fun _ h => nomatch h) (fun _ h => h)
      ·simp only [decide_eq_false_iff_not] at h128
       refine CJ_skip ?_
       refine QJ_then ?_
       refine CJ_reg ?_
       refine LJ_y rfl rfl (YJ_move rfl) ?_
       refine LJ_y rfl rfl (YJ_bin rfl rfl (iop_add (by omega))) ?_
       refine LJ_y rfl rfl (YJ_assign rfl) ?_
       refine LJ_nil ?_
       refine QJ_in_normal ?_
       refine QJ_then ?_
       refine CJ_reg ?_
       refine LJ_y rfl rfl (YJ_bin rfl rfl (iop_add (by omega))) ?_
       refine LJ_y rfl rfl (YJ_move rfl) ?_
       refine LJ_nil ?_
       refine QJ_roundF (F := fun (i : Nat × Nat × MapI × Nat) => ⟨[(1, .int .i64 (H : Int)), (2, .int .u32 v), (3, .int .u32 fa), (4, .pointer (some ⟨b1, 0, none⟩)), (10, .slice A0 (gPts W H).length c0), (13, .slice TA (gTris W H (bitN v)).length cT), (22, .map (some fm)), (23, .int .i64 (i.2.1 : Nat)), (114, .slice TA (gTris W H (bitN v)).length cT), (115, .int .i64 ((gTris W H (bitN v)).length : Nat)), (116, .int .i64 (k : Nat)), (25, .pointer (some ⟨b6, 0, none⟩)), (120, .int .i64 (i.1 : Nat))], [mapR fm fK gI i.2.2.1 i.2.2.2, cellsR b6 #[.int .i64 x.1, .int .i64 x.2.1, .int .i64 x.2.2] 34], []⟩) (I := fun (i : Nat × Nat × MapI × Nat) => i.1 ≤ 3 ∧ (fa = 0 → i.2.2.1 = []) ∧ i.2.1 ≤ 3 * k + i.1) (m := fun (i : Nat × Nat × MapI × Nat) => 3 - i.1) (i := (_, n1, F1, cF1)) ((1, n1 + 1, F1, cF1)) (μd := []) ⟨by omega, hF1, by dsimp only; omega⟩ (by dsimp only; omega) (And.intro rfl (And.intro rfl (And.intro rfl (And.intro rfl (And.intro rfl (And.intro rfl (And.intro rfl (And.intro rfl (And.intro rfl (And.intro rfl (And.intro rfl (And.intro rfl (And.intro rfl (trivial)))))))))))))) (permI [] rfl) (fun _ h => nomatch h) (fun _ h => h)
     ·skip
      refine LJ_y rfl rfl (YJ_move rfl) ?_
      refine LJ_y rfl rfl (YJ_assign rfl) ?_
      refine LJ_nil ?_
      refine QJ_then ?_
      refine CJ_seq ?_
      refine CJ_seq ?_
      refine CJ_reg ?_
      refine LJ_y rfl rfl (YJ_move rfl) ?_
      refine LJ_y rfl rfl (YJ_move rfl) ?_
      refine LJ_y rfl rfl (YJ_rem rfl rfl (by first | decide | omega)) ?_
      refine LJ_y rfl rfl (YJ_shr rfl rfl (Int.tmod_nonneg _ (by omega))) ?_
      refine LJ_y rfl rfl (YJ_andU rfl rfl (Int.ediv_nonneg hf.1 (Int.le_of_lt (Int.pow_pos (by decide))))) ?_
      refine LJ_y rfl rfl (YJ_bin rfl rfl rfl) ?_
      refine LJ_nil ?_
      refine QJ_then ?_
      refine CJ_cond rfl (fun h128 => ?_) (fun h128 => ?_)
      ·simp only [decide_eq_true_eq] at h128
       refine CJ_regD mix (by kernel_rfl) (fun _ _ _ _ _ h => h) (selR [1] _) _ (selR_sub _ _) (fun _ h => h) ?_
       refine AJ_y 0 rfl (by kernel_rfl) (by kernel_rfl) rfl rfl (YJ_move rfl) ?_
       refine AJ_y 1 rfl (by kernel_rfl) (by kernel_rfl) rfl rfl (YJ_move rfl) ?_
       refine AJ_val (v := .int .i64 1) (rfl) ?_
       refine AJ_y 2 rfl (by kernel_rfl) (by kernel_rfl) rfl rfl (YJ_ixArr rfl rfl arrt_34 (by omega) (by omega) rfl) ?_
       refine AJ_y 3 rfl (by kernel_rfl) (by kernel_rfl) rfl rfl (YJ_loadL rfl tyi_3 m0 rfl) ?_
       refine AJ_y 4 rfl (by kernel_rfl) (by kernel_rfl) rfl rfl (YJ_move rfl) ?_
       refine AJ_y 5 rfl (by kernel_rfl) (by kernel_rfl) rfl rfl (YJ_bin rfl rfl (iop_add (by omega))) ?_
       refine AJ_y 6 rfl (by kernel_rfl) (by kernel_rfl) rfl rfl (YJ_rem rfl rfl (by first | decide | omega)) ?_
       refine AJ_val (v := .int .i64 2) (rfl) ?_
       refine AJ_y 7 rfl (by kernel_rfl) (by kernel_rfl) rfl rfl (YJ_ixArr rfl rfl arrt_34 (by omega) (by omega) rfl) ?_
       refine AJ_y 8 rfl (by kernel_rfl) (by kernel_rfl) rfl rfl (YJ_loadL rfl tyi_3 m0 rfl) ?_
       refine AJ_y 9 rfl (by kernel_rfl) (by kernel_rfl) rfl rfl (YJ_min2 rfl rfl) ?_
       refine AJ_y 10 rfl (by kernel_rfl) (by kernel_rfl) rfl rfl (YJ_move rfl) ?_
       refine AJ_val (v := .int .i64 1) (rfl) ?_
       refine AJ_y 11 rfl (by kernel_rfl) (by kernel_rfl) rfl rfl (YJ_ixArr rfl rfl arrt_34 (by omega) (by omega) rfl) ?_
       refine AJ_y 12 rfl (by kernel_rfl) (by kernel_rfl) rfl rfl (YJ_loadL rfl tyi_3 m0 rfl) ?_
       refine AJ_y 13 rfl (by kernel_rfl) (by kernel_rfl) rfl rfl (YJ_move rfl) ?_
       refine AJ_y 14 rfl (by kernel_rfl) (by kernel_rfl) rfl rfl (YJ_bin rfl rfl (iop_add (by omega))) ?_
       refine AJ_y 15 rfl (by kernel_rfl) (by kernel_rfl) rfl rfl (YJ_rem rfl rfl (by first | decide | omega)) ?_
       refine AJ_val (v := .int .i64 2) (rfl) ?_
       refine AJ_y 16 rfl (by kernel_rfl) (by kernel_rfl) rfl rfl (YJ_ixArr rfl rfl arrt_34 (by omega) (by omega) rfl) ?_
       refine AJ_y 17 rfl (by kernel_rfl) (by kernel_rfl) rfl rfl (YJ_loadL rfl tyi_3 m0 rfl) ?_
       refine AJ_y 18 rfl (by kernel_rfl) (by kernel_rfl) rfl rfl (YJ_max2 rfl rfl) ?_
       refine AJ_y 19 rfl (by kernel_rfl) (by kernel_rfl) rfl rfl (YJ_build1 (cs := [_, _]) lay_46 rfl rfl rfl) ?_
       refine AJ_mapUpdate (f := fK) (g := gI) (k := (min (x.2.1) (x.2.2), max (x.2.1) (x.2.2))) (v := (1 : Int)) 20 0 rfl (by kernel_rfl) rfl rfl rfl rfl rfl umap_116 keyO rfl rfl (AllIn.sub (And.intro m1 (trivial))) ?_
       show AJ _ _ _ _ _ _ _ _ (_ :: _ :: _) _
       refine AJ_done (by kernel_rfl) ?_
       refine QJ_then ?_
       refine CJ_reg ?_
       refine LJ_y rfl rfl (YJ_move rfl) ?_
       refine LJ_y rfl rfl (YJ_bin rfl rfl (iop_add (by omega))) ?_
       refine LJ_y rfl rfl (YJ_assign rfl) ?_
       refine LJ_nil ?_
       refine QJ_in_normal ?_
       refine QJ_then ?_
       refine CJ_reg ?_
       refine LJ_y rfl rfl (YJ_bin rfl rfl (iop_add (by omega))) ?_
       refine LJ_y rfl rfl (YJ_move rfl) ?_
       refine LJ_nil ?_
       refine QJ_roundF (F := fun (i : Nat × Nat × MapI × Nat) => ⟨[(1, .int .i64 (H : Int)), (2, .int .u32 v), (3, .int .u32 fa), (4, .pointer (some ⟨b1, 0, none⟩)), (10, .slice A0 (gPts W H).length c0), (13, .slice TA (gTris W H (bitN v)).length cT), (22, .map (some fm)), (23, .int .i64 (i.2.1 : Nat)), (114, .slice TA (gTris W H (bitN v)).length cT), (115, .int .i64 ((gTris W H (bitN v)).length : Nat)), (116, .int .i64 (k : Nat)), (25, .pointer (some ⟨b6, 0, none⟩)), (120, .int .i64 (i.1 : Nat))], [mapR fm fK gI i.2.2.1 i.2.2.2, cellsR b6 #[.int .i64 x.1, .int .i64 x.2.1, .int .i64 x.2.2] 34], []⟩) (I := fun (i : Nat × Nat × MapI × Nat) => i.1 ≤ 3 ∧ (fa = 0 → i.2.2.1 = []) ∧ i.2.1 ≤ 3 * k + i.1) (m := fun (i : Nat × Nat × MapI × Nat) => 3 - i.1) (i := (_, n1, F1, cF1)) ((2, n1 + 1, mput (min (x.2.1) (x.2.2), max (x.2.1) (x.2.2)) (1 : Int) F1 cF1, mclk (min (x.2.1) (x.2.2), max (x.2.1) (x.2.2)) F1 cF1)) (μd := []) ⟨by omega, fun q => by subst q; simp at h128, by dsimp only; omega⟩ (by dsimp only; omega) (And.intro rfl (And.intro rfl (And.intro rfl (And.intro rfl (And.intro rfl (And.intro rfl (And.intro rfl (And.intro rfl (And.intro rfl (And.intro rfl (And.intro rfl (And.intro rfl (And.intro rfl (trivial)))))))))))))) (permI [] rfl) (fun _ h => nomatch h) (fun _ h => h)
      ·simp only [decide_eq_false_iff_not] at h128
       refine CJ_skip ?_
       refine QJ_then ?_
       refine CJ_reg ?_
       refine LJ_y rfl rfl (YJ_move rfl) ?_
       refine LJ_y rfl rfl (YJ_bin rfl rfl (iop_add (by omega))) ?_
       refine LJ_y rfl rfl (YJ_assign rfl) ?_
       refine LJ_nil ?_
       refine QJ_in_normal ?_
       refine QJ_then ?_
       refine CJ_reg ?_
       refine LJ_y rfl rfl (YJ_bin rfl rfl (iop_add (by omega))) ?_
       refine LJ_y rfl rfl (YJ_move rfl) ?_
       refine LJ_nil ?_
       refine QJ_roundF (F := fun (i : Nat × Nat × MapI × Nat) => ⟨[(1, .int .i64 (H : Int)), (2, .int .u32 v), (3, .int .u32 fa), (4, .pointer (some ⟨b1, 0, none⟩)), (10, .slice A0 (gPts W H).length c0), (13, .slice TA (gTris W H (bitN v)).length cT), (22, .map (some fm)), (23, .int .i64 (i.2.1 : Nat)), (114, .slice TA (gTris W H (bitN v)).length cT), (115, .int .i64 ((gTris W H (bitN v)).length : Nat)), (116, .int .i64 (k : Nat)), (25, .pointer (some ⟨b6, 0, none⟩)), (120, .int .i64 (i.1 : Nat))], [mapR fm fK gI i.2.2.1 i.2.2.2, cellsR b6 #[.int .i64 x.1, .int .i64 x.2.1, .int .i64 x.2.2] 34], []⟩) (I := fun (i : Nat × Nat × MapI × Nat) => i.1 ≤ 3 ∧ (fa = 0 → i.2.2.1 = []) ∧ i.2.1 ≤ 3 * k + i.1) (m := fun (i : Nat × Nat × MapI × Nat) => 3 - i.1) (i := (_, n1, F1, cF1)) ((2, n1 + 1, F1, cF1)) (μd := []) ⟨by omega, hF1, by dsimp only; omega⟩ (by dsimp only; omega) (And.intro rfl (And.intro rfl (And.intro rfl (And.intro rfl (And.intro rfl (And.intro rfl (And.intro rfl (And.intro rfl (And.intro rfl (And.intro rfl (And.intro rfl (And.intro rfl (And.intro rfl (trivial)))))))))))))) (permI [] rfl) (fun _ h => nomatch h) (fun _ h => h)
     ·skip
      refine LJ_y rfl rfl (YJ_move rfl) ?_
      refine LJ_y rfl rfl (YJ_assign rfl) ?_
      refine LJ_nil ?_
      refine QJ_then ?_
      refine CJ_seq ?_
      refine CJ_seq ?_
      refine CJ_reg ?_
      refine LJ_y rfl rfl (YJ_move rfl) ?_
      refine LJ_y rfl rfl (YJ_move rfl) ?_
      refine LJ_y rfl rfl (YJ_rem rfl rfl (by first | decide | omega)) ?_
      refine LJ_y rfl rfl (YJ_shr rfl rfl (Int.tmod_nonneg _ (by omega))) ?_
      refine LJ_y rfl rfl (YJ_andU rfl rfl (Int.ediv_nonneg hf.1 (Int.le_of_lt (Int.pow_pos (by decide))))) ?_
      refine LJ_y rfl rfl (YJ_bin rfl rfl rfl) ?_
      refine LJ_nil ?_
      refine QJ_then ?_
      refine CJ_cond rfl (fun h128 => ?_) (fun h128 => ?_)
      ·simp only [decide_eq_true_eq] at h128
       refine CJ_regD mix (by kernel_rfl) (fun _ _ _ _ _ h => h) (selR [1] _) _ (selR_sub _ _) (fun _ h => h) ?_
       refine AJ_y 0 rfl (by kernel_rfl) (by kernel_rfl) rfl rfl (YJ_move rfl) ?_
       refine AJ_y 1 rfl (by kernel_rfl) (by kernel_rfl) rfl rfl (YJ_move rfl) ?_
       refine AJ_val (v := .int .i64 2) (rfl) ?_
       refine AJ_y 2 rfl (by kernel_rfl) (by kernel_rfl) rfl rfl (YJ_ixArr rfl rfl arrt_34 (by omega) (by omega) rfl) ?_
       refine AJ_y 3 rfl (by kernel_rfl) (by kernel_rfl) rfl rfl (YJ_loadL rfl tyi_3 m0 rfl) ?_
       refine AJ_y 4 rfl (by kernel_rfl) (by kernel_rfl) rfl rfl (YJ_move rfl) ?_
       refine AJ_y 5 rfl (by kernel_rfl) (by kernel_rfl) rfl rfl (YJ_bin rfl rfl (iop_add (by omega))) ?_
       refine AJ_y 6 rfl (by kernel_rfl) (by kernel_rfl) rfl rfl (YJ_rem rfl rfl (by first | decide | omega)) ?_
       refine AJ_val (v := .int .i64 0) (rfl) ?_
       refine AJ_y 7 rfl (by kernel_rfl) (by kernel_rfl) rfl rfl (YJ_ixArr rfl rfl arrt_34 (by omega) (by omega) rfl) ?_
       refine AJ_y 8 rfl (by kernel_rfl) (by kernel_rfl) rfl rfl (YJ_loadL rfl tyi_3 m0 rfl) ?_
       refine AJ_y 9 rfl (by kernel_rfl) (by kernel_rfl) rfl rfl (YJ_min2 rfl rfl) ?_
       refine AJ_y 10 rfl (by kernel_rfl) (by kernel_rfl) rfl rfl (YJ_move rfl) ?_
       refine AJ_val (v := .int .i64 2) (rfl) ?_
       refine AJ_y 11 rfl (by kernel_rfl) (by kernel_rfl) rfl rfl (YJ_ixArr rfl rfl arrt_34 (by omega) (by omega) rfl) ?_
       refine AJ_y 12 rfl (by kernel_rfl) (by kernel_rfl) rfl rfl (YJ_loadL rfl tyi_3 m0 rfl) ?_
       refine AJ_y 13 rfl (by kernel_rfl) (by kernel_rfl) rfl rfl (YJ_move rfl) ?_
       refine AJ_y 14 rfl (by kernel_rfl) (by kernel_rfl) rfl rfl (YJ_bin rfl rfl (iop_add (by omega))) ?_
       refine AJ_y 15 rfl (by kernel_rfl) (by kernel_rfl) rfl rfl (YJ_rem rfl rfl (by first | decide | omega)) ?_
       refine AJ_val (v := .int .i64 0) (rfl) ?_
       refine AJ_y 16 rfl (by kernel_rfl) (by kernel_rfl) rfl rfl (YJ_ixArr rfl rfl arrt_34 (by omega) (by omega) rfl) ?_
       refine AJ_y 17 rfl (by kernel_rfl) (by kernel_rfl) rfl rfl (YJ_loadL rfl tyi_3 m0 rfl) ?_
       refine AJ_y 18 rfl (by kernel_rfl) (by kernel_rfl) rfl rfl (YJ_max2 rfl rfl) ?_
       refine AJ_y 19 rfl (by kernel_rfl) (by kernel_rfl) rfl rfl (YJ_build1 (cs := [_, _]) lay_46 rfl rfl rfl) ?_
       refine AJ_mapUpdate (f := fK) (g := gI) (k := (min (x.2.2) (x.1), max (x.2.2) (x.1))) (v := (1 : Int)) 20 0 rfl (by kernel_rfl) rfl rfl rfl rfl rfl umap_116 keyO rfl rfl (AllIn.sub (And.intro m1 (trivial))) ?_
       show AJ _ _ _ _ _ _ _ _ (_ :: _ :: _) _
       refine AJ_done (by kernel_rfl) ?_
       refine QJ_then ?_
       refine CJ_reg ?_
       refine LJ_y rfl rfl (YJ_move rfl) ?_
       refine LJ_y rfl rfl (YJ_bin rfl rfl (iop_add (by omega))) ?_
       refine LJ_y rfl rfl (YJ_assign rfl) ?_
       refine LJ_nil ?_
       refine QJ_in_normal ?_
       refine QJ_then ?_
       refine CJ_reg ?_
       refine LJ_y rfl rfl (YJ_bin rfl rfl (iop_add (by omega))) ?_
       refine LJ_y rfl rfl (YJ_move rfl) ?_
       refine LJ_nil ?_
       refine QJ_roundF (F := fun (i : Nat × Nat × MapI × Nat) => ⟨[(1, .int .i64 (H : Int)), (2, .int .u32 v), (3, .int .u32 fa), (4, .pointer (some ⟨b1, 0, none⟩)), (10, .slice A0 (gPts W H).length c0), (13, .slice TA (gTris W H (bitN v)).length cT), (22, .map (some fm)), (23, .int .i64 (i.2.1 : Nat)), (114, .slice TA (gTris W H (bitN v)).length cT), (115, .int .i64 ((gTris W H (bitN v)).length : Nat)), (116, .int .i64 (k : Nat)), (25, .pointer (some ⟨b6, 0, none⟩)), (120, .int .i64 (i.1 : Nat))], [mapR fm fK gI i.2.2.1 i.2.2.2, cellsR b6 #[.int .i64 x.1, .int .i64 x.2.1, .int .i64 x.2.2] 34], []⟩) (I := fun (i : Nat × Nat × MapI × Nat) => i.1 ≤ 3 ∧ (fa = 0 → i.2.2.1 = []) ∧ i.2.1 ≤ 3 * k + i.1) (m := fun (i : Nat × Nat × MapI × Nat) => 3 - i.1) (i := (_, n1, F1, cF1)) ((3, n1 + 1, mput (min (x.2.2) (x.1), max (x.2.2) (x.1)) (1 : Int) F1 cF1, mclk (min (x.2.2) (x.1), max (x.2.2) (x.1)) F1 cF1)) (μd := []) ⟨by omega, fun q => by subst q; simp at h128, by dsimp only; omega⟩ (by dsimp only; omega) (And.intro rfl (And.intro rfl (And.intro rfl (And.intro rfl (And.intro rfl (And.intro rfl (And.intro rfl (And.intro rfl (And.intro rfl (And.intro rfl (And.intro rfl (And.intro rfl (And.intro rfl (trivial)))))))))))))) (permI [] rfl) (fun _ h => nomatch h) (fun _ h => h)
      ·simp only [decide_eq_false_iff_not] at h128
       refine CJ_skip ?_
       refine QJ_then ?_
       refine CJ_reg ?_
       refine LJ_y rfl rfl (YJ_move rfl) ?_
       refine LJ_y rfl rfl (YJ_bin rfl rfl (iop_add (by omega))) ?_
       refine LJ_y rfl rfl (YJ_assign rfl) ?_
       refine LJ_nil ?_
       refine QJ_in_normal ?_
       refine QJ_then ?_
       refine CJ_reg ?_
       refine LJ_y rfl rfl (YJ_bin rfl rfl (iop_add (by omega))) ?_
       refine LJ_y rfl rfl (YJ_move rfl) ?_
       refine LJ_nil ?_
       refine QJ_roundF (F := fun (i : Nat × Nat × MapI × Nat) => ⟨[(1, .int .i64 (H : Int)), (2, .int .u32 v), (3, .int .u32 fa), (4, .pointer (some ⟨b1, 0, none⟩)), (10, .slice A0 (gPts W H).length c0), (13, .slice TA (gTris W H (bitN v)).length cT), (22, .map (some fm)), (23, .int .i64 (i.2.1 : Nat)), (114, .slice TA (gTris W H (bitN v)).length cT), (115, .int .i64 ((gTris W H (bitN v)).length : Nat)), (116, .int .i64 (k : Nat)), (25, .pointer (some ⟨b6, 0, none⟩)), (120, .int .i64 (i.1 : Nat))], [mapR fm fK gI i.2.2.1 i.2.2.2, cellsR b6 #[.int .i64 x.1, .int .i64 x.2.1, .int .i64 x.2.2] 34], []⟩) (I := fun (i : Nat × Nat × MapI × Nat) => i.1 ≤ 3 ∧ (fa = 0 → i.2.2.1 = []) ∧ i.2.1 ≤ 3 * k + i.1) (m := fun (i : Nat × Nat × MapI × Nat) => 3 - i.1) (i := (_, n1, F1, cF1)) ((3, n1 + 1, F1, cF1)) (μd := []) ⟨by omega, hF1, by dsimp only; omega⟩ (by dsimp only; omega) (And.intro rfl (And.intro rfl (And.intro rfl (And.intro rfl (And.intro rfl (And.intro rfl (And.intro rfl (And.intro rfl (And.intro rfl (And.intro rfl (And.intro rfl (And.intro rfl (And.intro rfl (trivial)))))))))))))) (permI [] rfl) (fun _ h => nomatch h) (fun _ h => h)
    ·simp only [decide_eq_false_iff_not] at h121
     have hj3 : 3 = j := by omega
     subst hj3
     refine CJ_exit ?_
     refine QJ_then_exit ?_
     refine QJ_then_exit ?_
     refine QJ_in_exit ?_
     refine QJ_in_normal ?_
     refine QJ_then ?_
     refine CJ_reg ?_
     refine LJ_y rfl rfl (YJ_bin rfl rfl (iop_add (by omega))) ?_
     refine LJ_y rfl rfl (YJ_move rfl) ?_
     refine LJ_nil ?_
     refine QJ_roundF (F := fun (i : Nat × Nat × MapI × Nat) => ⟨[(1, .int .i64 (H : Int)), (2, .int .u32 v), (3, .int .u32 fa), (4, .pointer (some ⟨b1, 0, none⟩)), (10, .slice A0 (gPts W H).length c0), (13, .slice TA (gTris W H (bitN v)).length cT), (22, .map (some fm)), (23, .int .i64 (i.2.1 : Nat)), (114, .slice TA (gTris W H (bitN v)).length cT), (115, .int .i64 ((gTris W H (bitN v)).length : Nat)), (116, .int .i64 (i.1 : Nat))], [mapR fm fK gI i.2.2.1 i.2.2.2], []⟩) (I := fun (i : Nat × Nat × MapI × Nat) => i.1 ≤ (gTris W H (bitN v)).length ∧ (fa = 0 → i.2.2.1 = []) ∧ i.2.1 ≤ 3 * i.1) (m := fun (i : Nat × Nat × MapI × Nat) => (gTris W H (bitN v)).length - i.1) (i := (k, n, F, cF)) ((k + 1, n1, F1, cF1)) (μd := [_]) ⟨by omega, hF1, by dsimp only; omega⟩ (by dsimp only; omega) (And.intro rfl (And.intro rfl (And.intro rfl (And.intro rfl (And.intro rfl (And.intro rfl (And.intro rfl (And.intro rfl (And.intro rfl (And.intro rfl (And.intro rfl (trivial)))))))))))) (permI [] rfl) (fun _ h => nomatch h) (fun _ h => h)
   ·simp only [decide_eq_false_iff_not] at h117
    refine CJ_exit ?_
    refine QJ_then_exit ?_
    refine QJ_then_exit ?_
    refine QJ_in_exit ?_
    refine QJ_then ?_
    refine CJ_seq ?_
    obtain ⟨a, b, c, rest, hT, hrl, hvv, ha, hb, hc, hA⟩ := g_shape hW hH (bitN v)
    have hgp := gPts_ok hW hH
    have hP : ∀ j, j < (gPts W H).length → P2 ((gPts W H).getD j (0, 0)).1 ((gPts W H).getD j (0, 0)).2 := by
     intro j hj
     have := hgp.2 ((gPts W H).getD j (0, 0)) (by rw [List.getD_eq_getElem?_getD, List.getElem?_eq_getElem hj]; exact List.getElem_mem hj)
     exact ⟨⟨by omega, by omega⟩, ⟨by omega, by omega⟩⟩
    have hv1 : ∀ x, x ∈ [(a, b, c)] → x.1 < (gPts W H).length ∧ x.2.1 < (gPts W H).length ∧ x.2.2 < (gPts W H).length := by
     intro x hx
     rw [List.mem_singleton] at hx
     subst hx
     exact ⟨ha, hb, hc⟩
    have hvr : ∀ x, x ∈ rest → x.1 < ((gPts W H).length : Int) ∧ x.2.1 < ((gPts W H).length : Int) ∧ x.2.2 < ((gPts W H).length : Int) := fun x hx => hvv x (by rw [hT]; exact .tail _ hx)
    have hgr : gridR F W H (bitN v) = buildR F (gPts W H) a b c (((a : Int), (b : Int), (c : Int)) :: rest) := by unfold gridR gHead; rw [hT]; rfl
    have hgpl := hgp.1
    rw [hT]
    refine CJ_freezeK 0 rfl ?_
    show CJ _ _ _ _ (_) _
    refine CJ_reg ?_
    refine LJ_y rfl rfl (YJ_move rfl) ?_
    refine LJ_y rfl rfl (YJ_move rfl) ?_
    refine LJ_y rfl rfl (YJ_move rfl) ?_
    refine LJ_callP (μ1 := []) (μr := []) (permI [] rfl) rfl rfl rfl rfl rfl (build_c (F := F) (a := a) (b := b) (c := c) (rest := rest) (pts := gPts W H) (by omega) (by omega) hv1 hvr hP hA) (AllIn.sub (And.intro m2 (And.intro m1 (And.intro m0 trivial)))) ?_
    rintro ⟨B9, border⟩ hB9
    show LJ _ _ _ _ _ (_ :: _) _
    refine LJ_y rfl rfl (YJ_move rfl) ?_
    refine LJ_y rfl rfl (YJ_assign rfl) ?_
    refine LJ_y rfl rfl (YJ_assign rfl) ?_
    refine LJ_nil ?_
    refine QJ_then ?_
    refine CJ_ret ?_
    skip
    refine QJ_fin (.inl rfl) (μ' := [_]) (μr := []) (φ' := [sliceR 3 TA (((a : Int), (b : Int), (c : Int)) :: rest).length (t3Cells (((a : Int), (b : Int), (c : Int)) :: rest))]) (res_tmp2 rfl rfl rfl) (permI [] rfl) (AllIn.sub (And.intro m1 trivial)) ?_
    rw [← hT, ← hgr] at *
    exact ⟨(B9, F, border, TA, cT), ⟨hF, hB9⟩, rfl, rfl, rfl⟩
end Go.Proofs.Ytbanlhlggkdanaa
namespace Go.Proofs.Ytbanlhlggkdanaa
open Go.RowKit
section
variable {κ ν : Type} [DecidableEq κ]
theorem mfind_succ {k : κ} : ∀ (l : List (κ × ν × Nat)) (b : Nat), mfind k l (b + 1) = (mfind k l b).map (fun p => (p.1 + 1, p.2))
 | [], b => rfl
 | e :: r, b => by
  unfold mfind
  split
  ·rfl
  ·exact mfind_succ r (b + 1)
theorem mget_nil {k : κ} : mget k ([] : List (κ × ν × Nat)) = none := rfl
theorem mget_cons {k : κ} {e : κ × ν × Nat} {l : List (κ × ν × Nat)} : mget k (e :: l) = if k = e.1 then some e.2.1 else mget k l := by
 unfold mget
 rw [mfind]
 by_cases h : k = e.1
 ·rw [if_pos h, if_pos h]; rfl
 ·rw [if_neg h, if_neg h, mfind_succ]; cases mfind k l 0 <;> rfl
theorem mput_nil {k : κ} {v : ν} {c : Nat} : mput k v ([] : List (κ × ν × Nat)) c = [(k, v, c)] := rfl
theorem mput_cons {k : κ} {v : ν} {e : κ × ν × Nat} {l : List (κ × ν × Nat)} {c : Nat} : mput k v (e :: l) c = if k = e.1 then (e.1, v, e.2.2) :: l else e :: mput k v l c := by
 unfold mput
 rw [mfind]
 by_cases h : k = e.1
 ·rw [if_pos h, if_pos h]; rfl
 ·rw [if_neg h, if_neg h, mfind_succ]; cases mfind k l 0 <;> rfl
theorem mdel_cons {k : κ} {e : κ × ν × Nat} {l : List (κ × ν × Nat)} : mdel k (e :: l) = if k = e.1 then l else e :: mdel k l := by
 unfold mdel
 rw [mfind]
 by_cases h : k = e.1
 ·rw [if_pos h, if_pos h]; rfl
 ·rw [if_neg h, if_neg h, mfind_succ]; cases mfind k l 0 <;> rfl
theorem mget_mput {k k' : κ} {v : ν} {c : Nat} : ∀ {l : List (κ × ν × Nat)}, mget k' (mput k v l c) = if k' = k then some v else mget k' l
 | [] => by rw [mput_nil, mget_cons, mget_nil]
 | e :: l => by
  rw [mput_cons]
  by_cases h : k = e.1
  ·rw [if_pos h, mget_cons, mget_cons, ← h]
   by_cases h2 : k' = k <;> simp [h2]
  ·rw [if_neg h, mget_cons, mget_cons, mget_mput]
   by_cases h2 : k' = e.1
   ·subst h2; rw [if_pos rfl, if_pos rfl, if_neg (fun q => h q.symm)]
   ·rw [if_neg h2, if_neg h2]
theorem mget_mdel_ne {k k' : κ} (h : k' ≠ k) : ∀ {l : List (κ × ν × Nat)}, mget k' (mdel k l) = mget k' l
 | [] => rfl
 | e :: l => by
  rw [mdel_cons]
  by_cases h1 : k = e.1
  ·rw [if_pos h1, mget_cons, if_neg (fun q => h (q.trans h1.symm))]
  ·rw [if_neg h1, mget_cons, mget_cons, mget_mdel_ne h]
theorem mget_none {k : κ} : ∀ {l : List (κ × ν × Nat)}, ¬ k ∈ l.map (·.1) → mget k l = none
 | [], _ => rfl
 | e :: l, h => by
  rw [List.map_cons, List.mem_cons, not_or] at h
  rw [mget_cons, if_neg h.1]; exact mget_none h.2
theorem mget_mdel_eq {k : κ} : ∀ {l : List (κ × ν × Nat)}, (l.map (·.1)).Nodup → mget k (mdel k l) = none
 | [], _ => rfl
 | e :: l, h => by
  rw [List.map_cons, List.nodup_cons] at h
  rw [mdel_cons]
  by_cases h1 : k = e.1
  ·rw [if_pos h1]; exact mget_none (h1 ▸ h.1)
  ·rw [if_neg h1, mget_cons, if_neg h1]; exact mget_mdel_eq h.2
theorem mdel_keys {k : κ} {l : List (κ × ν × Nat)} (h : (l.map (·.1)).Nodup) : ((mdel k l).map (·.1)).Nodup := by
 unfold mdel
 split
 ·exact h.sublist (List.Sublist.map _ (List.eraseIdx_sublist _ _))
 ·exact h
theorem mput_keys {k : κ} {v : ν} {c : Nat} : ∀ {l : List (κ × ν × Nat)}, (l.map (·.1)).Nodup → ((mput k v l c).map (·.1)).Nodup
 | [], _ => by rw [mput_nil]; simp
 | e :: l, h => by
  rw [mput_cons]
  by_cases h1 : k = e.1
  ·rw [if_pos h1]; exact h
  ·rw [if_neg h1]
   rw [List.map_cons, List.nodup_cons] at h ⊢
   refine ⟨fun q => ?_, mput_keys h.2⟩
   obtain ⟨e', he', q2⟩ := List.mem_map.1 q
   rcases mput_key he' with q3 | ⟨e2, q3, q4⟩
   ·exact h1 (q3.symm.trans q2)
   ·exact h.1 (List.mem_map.2 ⟨e2, q3, q4.trans q2⟩)
theorem mget_some_mem {k : κ} {v : ν} {l : List (κ × ν × Nat)} (h : mget k l = some v) : k ∈ l.map (·.1) := by
 obtain ⟨e, h1, h2, _⟩ := mget_mem h
 exact List.mem_map.2 ⟨e, h1, h2⟩
theorem mget_of_mem : ∀ {l : List (κ × ν × Nat)} {e : κ × ν × Nat}, (l.map (·.1)).Nodup → e ∈ l → mget e.1 l = some e.2.1
 | x :: l, e, hn, h => by
  rw [List.map_cons, List.nodup_cons] at hn
  rw [mget_cons]
  rcases List.mem_cons.1 h with rfl | h
  ·rw [if_pos rfl]
  ·rw [if_neg (fun q : e.1 = x.1 => hn.1 (q ▸ List.mem_map.2 ⟨e, h, rfl⟩))]; exact mget_of_mem hn.2 h
end
def vw (l : List Tr) (q : Nat) : Option (Int × Int × Int) := l[q]?.map fun t => (t.v0, t.v1, t.v2)
def nb (l : List Tr) (q k : Nat) : Option Int := l[q]?.map fun t => t.n k
def rv (v : Int × Int × Int) : Prop := 0 ≤ v.1 ∧ 0 ≤ v.2.1 ∧ 0 ≤ v.2.2
instance (v : Int × Int × Int) : Decidable (rv v) := inferInstanceAs (Decidable (_ ∧ _))
theorem setN_v (t : Tr) (i : Nat) (u : Int) : (t.setN i u).v0 = t.v0 ∧ (t.setN i u).v1 = t.v1 ∧ (t.setN i u).v2 = t.v2 := by
 unfold Tr.setN
 (repeat' split) <;> exact ⟨rfl, rfl, rfl⟩
theorem setF_v (t : Tr) (i : Nat) (f : Bool) : (t.setF i f).v0 = t.v0 ∧ (t.setF i f).v1 = t.v1 ∧ (t.setF i f).v2 = t.v2 := by
 unfold Tr.setF
 (repeat' split) <;> exact ⟨rfl, rfl, rfl⟩
theorem setF_n (t : Tr) (i : Nat) (f : Bool) (k : Nat) : (t.setF i f).n k = t.n k := by
 unfold Tr.setF
 (repeat' split) <;> rfl
theorem setN_n (t : Tr) {i k : Nat} (u : Int) (hi : i < 3) (hk : k < 3) : (t.setN i u).n k = if k = i then u else t.n k := by
 match i, hi, k, hk with
 | 0, _, 0, _ => rfl
 | 0, _, 1, _ => rfl
 | 0, _, 2, _ => rfl
 | 1, _, 0, _ => rfl
 | 1, _, 1, _ => rfl
 | 1, _, 2, _ => rfl
 | 2, _, 0, _ => rfl
 | 2, _, 1, _ => rfl
 | 2, _, 2, _ => rfl
theorem vw_modify (l : List Tr) (i : Nat) (f : Tr → Tr) (hf : ∀ t, (f t).v0 = t.v0 ∧ (f t).v1 = t.v1 ∧ (f t).v2 = t.v2) (q : Nat) : vw (l.modify i f) q = vw l q := by
 unfold vw
 rw [List.getElem?_modify]
 cases l[q]? with
 | none => rfl
 | some t =>
  by_cases h : i = q
  ·simp [h, (hf t).1, (hf t).2.1, (hf t).2.2]
  ·simp [h]
theorem vw_link (M : MD) (t i u j : Nat) (f : Bool) (q : Nat) : vw (M.link t i u j f).tris q = vw M.tris q := by
 unfold MD.link
 dsimp only
 rw [vw_modify _ _ _ (fun x => setF_v x _ _), vw_modify _ _ _ (fun x => setF_v x _ _), vw_modify _ _ _ (fun x => setN_v x _ _), vw_modify _ _ _ (fun x => setN_v x _ _)]
theorem nb_modF (l : List Tr) (i j : Nat) (f : Bool) (q k : Nat) : nb (l.modify i (·.setF j f)) q k = nb l q k := by
 unfold nb
 rw [List.getElem?_modify]
 cases l[q]? with
 | none => rfl
 | some t => by_cases h : i = q <;> simp [h, setF_n]
theorem nb_modN (l : List Tr) {i j : Nat} (u : Int) {q k : Nat} (hj : j < 3) (hk : k < 3) : nb (l.modify i (·.setN j u)) q k = if q = i ∧ k = j then (nb l q k).map (fun _ => u) else nb l q k := by
 unfold nb
 rw [List.getElem?_modify]
 cases l[q]? with
 | none => simp
 | some t =>
  by_cases h : i = q
  ·subst h
   by_cases h2 : k = j
   ·subst h2; simp [setN_n t u hk hk]
   ·simp [setN_n t u hj hk, h2]
  ·have h' : ¬ q = i := fun e => h e.symm
   simp [h, h']
theorem nb_link (M : MD) {t i u j : Nat} (f : Bool) {q k : Nat} (hi : i < 3) (hj : j < 3) (hk : k < 3) : nb (M.link t i u j f).tris q k = if q = u ∧ k = j then (nb M.tris q k).map (fun _ => (t : Int)) else if q = t ∧ k = i then (nb M.tris q k).map (fun _ => (u : Int)) else nb M.tris q k := by
 unfold MD.link
 dsimp only
 rw [nb_modF, nb_modF, nb_modN _ _ hj hk, nb_modN _ _ hi hk]
 by_cases h1 : q = u ∧ k = j
 ·rw [if_pos h1, if_pos h1]
  by_cases h2 : q = t ∧ k = i
  ·rw [if_pos h2]; cases nb M.tris q k <;> rfl
  ·rw [if_neg h2]
 ·rw [if_neg h1, if_neg h1]
theorem vw_make (M : MD) (a b c : Int) (hf : ∀ k, k ∈ M.free → 0 ≤ k ∧ k < M.tris.length) (q : Nat) : vw (M.make a b c).tris q = if q = M.nextN.toNat then some (a, b, c) else vw M.tris q := by
 unfold vw MD.make MD.nextN
 dsimp only
 cases h : M.free.getLast? with
 | none =>
  dsimp only
  rw [List.getElem?_append]
  by_cases h1 : q < M.tris.length
  ·rw [if_pos h1, if_neg (by simp; omega)]
  ·rw [if_neg h1]
   by_cases h2 : q = M.tris.length
   ·subst h2; simp [Tr.new]
   ·rw [List.getElem?_eq_none (by simp; omega), if_neg (by simpa using h2), List.getElem?_eq_none (by omega)]
 | some k =>
  dsimp only
  have hk := hf k (List.mem_of_getLast? h)
  rw [List.getElem?_set]
  by_cases h2 : k.toNat = q
  ·rw [if_pos h2, if_pos h2.symm, if_pos (by omega)]; rfl
  ·rw [if_neg h2, if_neg (fun e => h2 e.symm)]
theorem nb_make (M : MD) (a b c : Int) (q j : Nat) (hq : q ≠ M.nextN.toNat) : nb (M.make a b c).tris q j = nb M.tris q j := by
 unfold nb MD.make
 unfold MD.nextN at hq
 dsimp only
 cases h : M.free.getLast? with
 | none =>
  rw [h] at hq
  dsimp only at hq ⊢
  rw [List.getElem?_append]
  by_cases h1 : q < M.tris.length
  ·rw [if_pos h1]
  ·rw [if_neg h1, List.getElem?_eq_none (by simp at hq ⊢; omega), List.getElem?_eq_none (by omega)]
 | some k =>
  rw [h] at hq
  dsimp only at hq ⊢
  rw [List.getElem?_set, if_neg (fun e => hq e.symm)]
end Go.Proofs.Ytbanlhlggkdanaa
namespace Go.Proofs.Ytbanlhlggkdanaa
open Go.RowKit
def kv (v : Int × Int × Int) (k : Nat) : Int × Int := (at3 v.1 v.2.1 v.2.2 ((k + 1) % 3), at3 v.1 v.2.1 v.2.2 ((k + 2) % 3))
structure GB (T0 : MD) (L0 : MapO) : Prop where
 fr : ∀ k, k ∈ T0.free → 0 ≤ k ∧ k < T0.tris.length
 frr : ∀ k v, k ∈ T0.free → vw T0.tris k.toNat = some v → ¬ rv v
 fn : T0.free.Nodup
 kn : (L0.map (·.1)).Nodup
 ed : ∀ e, e ∈ L0 → 0 ≤ e.1.1 ∧ 0 ≤ e.1.2 ∧ 0 ≤ e.2.1.1 ∧ 0 ≤ e.2.1.2 ∧ e.2.1.2 < 3 ∧ ∃ v, vw T0.tris e.2.1.1.toNat = some v ∧ rv v ∧ kv v e.2.1.2.toNat = e.1
 gone : ∀ q v, vw T0.tris q = some v → ¬ rv v → (q : Int) ∈ T0.free
 uq : ∀ q v k q' v' k', vw T0.tris q = some v → rv v → k < 3 → vw T0.tris q' = some v' → rv v' → k' < 3 → kv v k = kv v' k' → q = q' ∧ k = k'
structure GI (T0 : MD) (L0 P : MapO) (s : BS) : Prop where
 pts : s.M.pts = T0.pts
 fr : ∀ k, k ∈ s.M.free → 0 ≤ k ∧ k < s.M.tris.length
 frr : ∀ k v, k ∈ s.M.free → vw s.M.tris k.toNat = some v → ¬ rv v
 fn : s.M.free.Nodup
 sub : ∀ e, e ∈ P → e ∈ L0
 rl : ∀ q v, rv v → (vw s.M.tris q = some v ↔ vw T0.tris q = some v)
 kn : (s.L.map (·.1)).Nodup
 mp : ∀ a b, 0 ≤ a → 0 ≤ b → mget (a, b) s.L = if (a, b) ∈ P.map (·.1) then none else mget (a, b) L0
 gm : ∀ e, e ∈ s.L → ¬ (0 ≤ e.1.1 ∧ 0 ≤ e.1.2) → 0 ≤ e.2.1.2 ∧ e.2.1.2 < 3 ∧ ∀ v, vw s.M.tris e.2.1.1.toNat = some v → ¬ rv v
 nr : ∀ q v k, vw T0.tris q = some v → rv v → k < 3 → (¬ kv v k ∈ P.map (·.1) → nb s.M.tris q k = nb T0.tris q k) ∧ (kv v k ∈ P.map (·.1) → ∃ u : Nat, nb s.M.tris q k = some (u : Int) ∧ vw s.M.tris u = some ((kv v k).2, (kv v k).1, -1) ∧ ¬ (u : Int) ∈ s.M.free)
 gh : ∀ q v, vw s.M.tris q = some v → ¬ rv v → (q : Int) ∈ s.M.free ∨ ∃ e, e ∈ P ∧ v = (e.1.2, e.1.1, -1) ∧ nb s.M.tris e.2.1.1.toNat e.2.1.2.toNat = some (q : Int)
theorem GI.start {T0 : MD} {L0 : MapO} {c : Nat} (h : GB T0 L0) : GI T0 L0 [] ⟨T0, L0, c⟩ where
 pts := rfl
 fr := h.fr
 frr := h.frr
 fn := h.fn
 sub := fun _ h => nomatch h
 rl := fun _ _ _ => Iff.rfl
 kn := h.kn
 mp := fun a b _ _ => by simp
 gm := fun e he hn => absurd ⟨(h.ed e he).1, (h.ed e he).2.1⟩ hn
 nr := fun q v k _ _ _ => ⟨fun _ => rfl, fun q => by simp at q⟩
 gh := fun q v h1 h2 => .inl (h.gone q v h1 h2)
theorem vw_nb {l : List Tr} {q k : Nat} {v : Int × Int × Int} (h : vw l q = some v) : ∃ x, nb l q k = some x := by
 unfold vw at h; unfold nb
 cases hq : l[q]? with
 | none => rw [hq] at h; cases h
 | some t => exact ⟨_, rfl⟩
theorem vw_lt {l : List Tr} {q : Nat} {v : Int × Int × Int} (h : vw l q = some v) : q < l.length := by
 unfold vw at h
 rcases Nat.lt_or_ge q l.length with h1 | h1
 ·exact h1
 ·rw [List.getElem?_eq_none h1] at h; cases h
theorem joinG {F : MapI} {u : Nat} {v0 v1 v2 : Int} {s : BS} {i : Nat} (hi : i < 3) (hk : ¬ (0 ≤ at3 v0 v1 v2 ((i + 1) % 3) ∧ 0 ≤ at3 v0 v1 v2 ((i + 2) % 3))) (kn : (s.L.map (·.1)).Nodup)
  (gm : ∀ e, e ∈ s.L → ¬ (0 ≤ e.1.1 ∧ 0 ≤ e.1.2) → 0 ≤ e.2.1.2 ∧ e.2.1.2 < 3 ∧ ∀ v, vw s.M.tris e.2.1.1.toNat = some v → ¬ rv v) (hu : ∀ v, vw s.M.tris u = some v → ¬ rv v) :
  (∀ q, vw (joinE F u v0 v1 v2 s i).M.tris q = vw s.M.tris q) ∧ (joinE F u v0 v1 v2 s i).M.free = s.M.free ∧ (joinE F u v0 v1 v2 s i).M.pts = s.M.pts ∧ (joinE F u v0 v1 v2 s i).M.tris.length = s.M.tris.length ∧
  (((joinE F u v0 v1 v2 s i).L).map (·.1)).Nodup ∧ (∀ a b, 0 ≤ a → 0 ≤ b → mget (a, b) (joinE F u v0 v1 v2 s i).L = mget (a, b) s.L) ∧
  (∀ e, e ∈ (joinE F u v0 v1 v2 s i).L → ¬ (0 ≤ e.1.1 ∧ 0 ≤ e.1.2) → 0 ≤ e.2.1.2 ∧ e.2.1.2 < 3 ∧ ∀ v, vw (joinE F u v0 v1 v2 s i).M.tris e.2.1.1.toNat = some v → ¬ rv v) ∧
  (∀ q v k, vw s.M.tris q = some v → rv v → k < 3 → nb (joinE F u v0 v1 v2 s i).M.tris q k = nb s.M.tris q k) := by
 unfold joinE
 cases hg : mget (at3 v0 v1 v2 ((i + 2) % 3), at3 v0 v1 v2 ((i + 1) % 3)) s.L with
 | none =>
  dsimp only
  refine ⟨fun _ => rfl, rfl, rfl, rfl, mput_keys kn, fun a b ha hb => ?_, fun e he hn => ?_, fun _ _ _ _ _ _ => rfl⟩
  ·rw [mget_mput, if_neg]
   intro q
   rw [Prod.mk.injEq] at q
   exact hk ⟨q.1 ▸ ha, q.2 ▸ hb⟩
  ·rcases mput_mem he with q | q
   ·rw [q]
    dsimp only
    exact ⟨Int.natCast_nonneg i, by omega, fun v hv => hu v (by simpa using hv)⟩
   ·exact gm e q hn
 | some x =>
  dsimp only
  obtain ⟨e, he1, he2, he3⟩ := mget_mem hg
  obtain ⟨g1, g2, g3⟩ := gm e he1 (by rw [he2]; exact fun q => hk ⟨q.2, q.1⟩)
  rw [he3] at g1 g2 g3
  refine ⟨fun q => vw_link .., rfl, rfl, link_len .., mdel_keys kn, fun a b ha hb => ?_, fun e he hn => ?_, fun q v k hq hv hk3 => ?_⟩
  ·rw [mget_mdel_ne]
   intro q
   rw [Prod.mk.injEq] at q
   exact hk ⟨q.2 ▸ hb, q.1 ▸ ha⟩
  ·have := gm e (mdel_mem he) hn
   exact ⟨this.1, this.2.1, fun v hv => this.2.2 v (by rw [vw_link] at hv; exact hv)⟩
  ·rw [nb_link _ _ hi (by omega) hk3, if_neg, if_neg]
   ·rintro ⟨rfl, _⟩; exact hu v hq hv
   ·rintro ⟨rfl, _⟩; exact g3 v hq hv
theorem make_len_ge (M : MD) (a b c : Int) : M.tris.length ≤ (M.make a b c).tris.length := by
 unfold MD.make
 dsimp only
 split <;> simp
theorem next_or {M : MD} (fr : ∀ k, k ∈ M.free → 0 ≤ k ∧ k < M.tris.length) : (M.nextN ∈ M.free ∧ 0 ≤ M.nextN ∧ (∀ k, k ∈ M.free → k = M.nextN ∨ k ∈ M.free.dropLast)) ∨ (M.free = [] ∧ M.nextN = M.tris.length) := by
 unfold MD.nextN
 cases h : M.free.getLast? with
 | none => exact .inr ⟨List.getLast?_eq_none_iff.1 h, rfl⟩
 | some k =>
  have hm := List.mem_of_getLast? h
  refine .inl ⟨hm, (fr k hm).1, fun j hj => ?_⟩
  have hne : M.free ≠ [] := by intro e; rw [e] at hm; cases hm
  rw [← List.dropLast_concat_getLast hne] at hj
  rcases List.mem_append.1 hj with q | q
  ·exact .inr q
  ·rw [List.mem_singleton] at q
   rw [List.getLast?_eq_some_getLast hne] at h
   exact .inl (q.trans (Option.some.inj h))
theorem next_drop {M : MD} (fn : M.free.Nodup) : ¬ M.nextN ∈ M.free.dropLast ∨ M.free = [] := by
 by_cases hne : M.free = []
 ·exact .inr hne
 ·refine .inl ?_
  unfold MD.nextN
  rw [List.getLast?_eq_some_getLast hne]
  dsimp only
  rw [← List.dropLast_concat_getLast hne, List.nodup_append] at fn
  intro q
  exact fn.2.2 _ q _ (List.mem_singleton.2 rfl) rfl
theorem GI.step {T0 : MD} {L0 P : MapO} {s : BS} {F : MapI} (hB : GB T0 L0) (h : GI T0 L0 P s) {e : (Int × Int) × (Int × Int) × Nat} (he : e ∈ L0) (hn : ¬ e.1 ∈ P.map (·.1)) : GI T0 L0 (P ++ [e]) (stepG F s e) := by
 obtain ⟨⟨a, b⟩, ⟨t9, k9⟩, bo⟩ := e
 obtain ⟨ha, hb, ht, hk0, hk3, ve, hv1, hv2, hv3⟩ := hB.ed _ he
 dsimp only at ha hb ht hk0 hk3 hv1 hv2 hv3 hn
 have hkk : k9.toNat < 3 := by omega
 have hmg : mget (a, b) L0 = some (t9, k9) := mget_of_mem hB.kn he
 have hu0 : ∀ v, vw s.M.tris s.M.nextN.toNat = some v → ¬ rv v := fun v hv => by
  rcases next_or h.fr with ⟨q, _, _⟩ | ⟨_, q⟩
  ·exact h.frr _ v q hv
  ·have := vw_lt hv
   omega
 have hg : ¬ rv (b, a, -1) := fun q => absurd (show (0 : Int) ≤ -1 from q.2.2) (by decide)
 have w0 := vw_make s.M b a (-1) h.fr
 have hlen0 := make_len_ge s.M b a (-1)
 have n0 : ∀ q v k, vw s.M.tris q = some v → rv v → nb (s.M.make b a (-1)).tris q k = nb s.M.tris q k := fun q v k hq hv => nb_make _ _ _ _ _ _ (fun e : q = s.M.nextN.toNat => hu0 v (e ▸ hq) hv)
 have hreal0 : ∀ q v, vw s.M.tris q = some v → rv v → vw (s.M.make b a (-1)).tris q = some v := fun q v hq hv => by
  rw [w0, if_neg (fun e : q = s.M.nextN.toNat => hu0 v (e ▸ hq) hv)]; exact hq
 generalize hS0 : (⟨s.M.make b a (-1), s.L, s.c⟩ : BS) = s0
 have e0 : s0.M = s.M.make b a (-1) := by rw [← hS0]
 have l0 : s0.L = s.L := by rw [← hS0]
 have f0 : s0.M.free = s.M.free.dropLast := by rw [e0]; rfl
 have p0 : s0.M.pts = s.M.pts := by rw [e0]; rfl
 rw [← e0] at w0 hlen0 n0 hreal0
 have gm0 : ∀ e, e ∈ s0.L → ¬ (0 ≤ e.1.1 ∧ 0 ≤ e.1.2) → 0 ≤ e.2.1.2 ∧ e.2.1.2 < 3 ∧ ∀ v, vw s0.M.tris e.2.1.1.toNat = some v → ¬ rv v := fun e' he' hn' => by
  obtain ⟨q1, q2, q3⟩ := h.gm e' (l0 ▸ he') hn'
  refine ⟨q1, q2, fun v hv => ?_⟩
  rw [w0] at hv
  split at hv
  ·cases hv; exact hg
  ·exact q3 v hv
 have u0 : ∀ v, vw s0.M.tris s.M.nextN.toNat = some v → ¬ rv v := fun v hv => by
  rw [w0, if_pos rfl] at hv; cases hv; exact hg
 obtain ⟨w1, f1, p1, ln1, kn1, mp1, gm1, n1⟩ := joinG (F := F) (u := s.M.nextN.toNat) (v0 := b) (v1 := a) (v2 := -1) (s := s0) (i := 0) (by decide) (fun q => absurd (show (0 : Int) ≤ -1 from q.2) (by decide)) (by rw [l0]; exact h.kn) gm0 u0
 have hst : stepG F s ((a, b), (t9, k9), bo) = joinE F s.M.nextN.toNat b a (-1) (joinE F s.M.nextN.toNat b a (-1) (joinE F s.M.nextN.toNat b a (-1) s0 0) 1) 2 := by rw [← hS0]; rfl
 rw [hst]
 generalize joinE F s.M.nextN.toNat b a (-1) s0 0 = s1 at *
 obtain ⟨w2, f2, p2, ln2, kn2, mp2, gm2, n2⟩ := joinG (F := F) (u := s.M.nextN.toNat) (v0 := b) (v1 := a) (v2 := -1) (s := s1) (i := 1) (by decide) (fun q => absurd (show (0 : Int) ≤ -1 from q.1) (by decide)) kn1 gm1 (fun v hv => u0 v (by rw [← w1]; exact hv))
 generalize joinE F s.M.nextN.toNat b a (-1) s1 1 = s2 at *
 have hg2 : mget (a, b) s2.L = some (t9, k9) := by rw [mp2 a b ha hb, mp1 a b ha hb, l0, h.mp a b ha hb, if_neg hn, hmg]
 have h3 : joinE F s.M.nextN.toNat b a (-1) s2 2 = ⟨s2.M.link s.M.nextN.toNat 2 t9.toNat k9.toNat (flt F b a), mdel (a, b) s2.L, s2.c⟩ := by
  unfold joinE
  show (match mget (a, b) s2.L with | some x => _ | none => _) = _
  rw [hg2]
  rfl
 rw [h3]
 clear h3 hst
 have wS : ∀ q, vw (s2.M.link s.M.nextN.toNat 2 t9.toNat k9.toNat (flt F b a)).tris q = if q = s.M.nextN.toNat then some (b, a, -1) else vw s.M.tris q := fun q => by rw [vw_link, w2, w1, w0]
 have hrs : ∀ q v, vw T0.tris q = some v → rv v → vw s.M.tris q = some v := fun q v hq hv => (h.rl q v hv).2 hq
 have hne : ∀ q v, vw s.M.tris q = some v → rv v → q ≠ s.M.nextN.toNat := fun q v hq hv e => hu0 v (e ▸ hq) hv
 have nS : ∀ q v k, vw s.M.tris q = some v → rv v → k < 3 → nb (s2.M.link s.M.nextN.toNat 2 t9.toNat k9.toNat (flt F b a)).tris q k = if q = t9.toNat ∧ k = k9.toNat then some ((s.M.nextN.toNat : Nat) : Int) else nb s.M.tris q k := fun q v k hq hv hk => by
  have z1 : nb s2.M.tris q k = nb s.M.tris q k := by
   rw [n2 q v k (by rw [w1]; exact hreal0 q v hq hv) hv hk, n1 q v k (hreal0 q v hq hv) hv hk, n0 q v k hq hv]
  rw [nb_link _ _ (by decide) hkk hk, z1]
  obtain ⟨x, hx⟩ := vw_nb (k := k) hq
  by_cases q1 : q = t9.toNat ∧ k = k9.toNat
  ·rw [if_pos q1, if_pos q1, hx]; rfl
  ·rw [if_neg q1, if_neg q1, if_neg (fun q2 => hne q v hq hv q2.1)]
 have fS : (s2.M.link s.M.nextN.toNat 2 t9.toNat k9.toNat (flt F b a)).free = s.M.free.dropLast := by
  show s2.M.free = _
  rw [f2, f1, f0]
 have lS : s.M.tris.length ≤ (s2.M.link s.M.nextN.toNat 2 t9.toNat k9.toNat (flt F b a)).tris.length := by rw [link_len, ln2, ln1]; exact hlen0
 have ufr : ¬ ((s.M.nextN.toNat : Nat) : Int) ∈ s.M.free.dropLast := by
  rcases next_or h.fr with ⟨_, q0, _⟩ | ⟨q, _⟩
  ·rw [Int.toNat_of_nonneg q0]
   rcases next_drop h.fn with q | q
   ·exact q
   ·rw [q]; simp
  ·rw [q]; simp
 have hvt := hrs _ _ hv1 hv2
 refine ⟨?_, fun k hk => ?_, fun k v hk hv => ?_, ?_, fun e' he' => ?_, fun q v hv => ?_, mdel_keys kn2, fun a' b' ha' hb' => ?_, fun e' he' hn' => ?_, fun q v k hq hv hk => ⟨fun hk' => ?_, fun hk' => ?_⟩, fun q v hq hv => ?_⟩
 ·show s2.M.pts = _
  rw [p2, p1, p0, h.pts]
 ·dsimp only at hk ⊢
  rw [fS] at hk
  have := h.fr k (List.dropLast_subset _ hk)
  omega
 ·dsimp only at hk hv
  rw [fS] at hk
  rw [wS] at hv
  split at hv
  ·cases hv; exact hg
  ·exact h.frr k v (List.dropLast_subset _ hk) hv
 ·dsimp only
  rw [fS]
  exact h.fn.sublist (List.dropLast_sublist _)
 ·rcases List.mem_append.1 he' with q | q
  ·exact h.sub e' q
  ·rw [List.mem_singleton] at q; rw [q]; exact he
 ·dsimp only
  rw [wS]
  by_cases q1 : q = s.M.nextN.toNat
  ·rw [if_pos q1]
   constructor
   ·intro q2; cases q2; exact absurd hv hg
   ·intro q2
    have := (h.rl q v hv).2 q2
    exact absurd hv (hu0 v (q1 ▸ this))
  ·rw [if_neg q1]; exact h.rl q v hv
 ·dsimp only
  by_cases q1 : (a', b') = (a, b)
  ·rw [q1, mget_mdel_eq kn2, if_pos]
   simp
  ·rw [mget_mdel_ne q1, mp2 a' b' ha' hb', mp1 a' b' ha' hb', l0, h.mp a' b' ha' hb']
   by_cases q2 : (a', b') ∈ P.map (·.1)
   ·rw [if_pos q2, if_pos (by rw [List.map_append]; exact List.mem_append_left _ q2)]
   ·rw [if_neg q2, if_neg]
    rw [List.map_append, List.mem_append]
    rintro (q3 | q3)
    ·exact q2 q3
    ·rw [List.map_cons, List.map_nil, List.mem_singleton] at q3; exact q1 q3
 ·obtain ⟨q1, q2, q3⟩ := gm2 e' (mdel_mem he') hn'
  exact ⟨q1, q2, fun v hv => q3 v (by dsimp only at hv; rw [vw_link] at hv; exact hv)⟩
 ·dsimp only
  have hk1 : ¬ kv v k ∈ P.map (·.1) := fun q1 => hk' (by rw [List.map_append]; exact List.mem_append_left _ q1)
  rw [nS q v k (hrs q v hq hv) hv hk, if_neg]
  ·exact (h.nr q v k hq hv hk).1 hk1
  ·rintro ⟨rfl, rfl⟩
   rw [hv1] at hq
   cases hq
   exact hk' (by rw [List.map_append, hv3]; exact List.mem_append_right _ (.head _))
 ·dsimp only
  rw [nS q v k (hrs q v hq hv) hv hk]
  by_cases q1 : q = t9.toNat ∧ k = k9.toNat
  ·obtain ⟨rfl, rfl⟩ := q1
   rw [hv1] at hq
   cases hq
   refine ⟨s.M.nextN.toNat, if_pos ⟨rfl, rfl⟩, ?_, ?_⟩
   ·rw [wS, if_pos rfl, hv3]
   ·rw [fS]; exact ufr
  ·rw [if_neg q1]
   have hk1 : kv v k ∈ P.map (·.1) := by
    rw [List.map_append, List.mem_append] at hk'
    rcases hk' with q2 | q2
    ·exact q2
    ·rw [List.map_cons, List.map_nil, List.mem_singleton] at q2
     exact absurd (hB.uq q v k _ ve _ hq hv hk hv1 hv2 hkk (q2.trans hv3.symm)) q1
   obtain ⟨u', y1, y2, y3⟩ := (h.nr q v k hq hv hk).2 hk1
   refine ⟨u', y1, ?_, ?_⟩
   ·rw [wS, if_neg]
    ·exact y2
    ·intro q2
     rcases next_or h.fr with ⟨z1, z2, _⟩ | ⟨_, z1⟩
     ·exact y3 (by rw [q2, Int.toNat_of_nonneg z2]; exact z1)
     ·have := vw_lt y2
      omega
   ·rw [fS]; exact fun q2 => y3 (List.dropLast_subset _ q2)
 ·dsimp only at hq ⊢
  rw [wS] at hq
  by_cases q1 : q = s.M.nextN.toNat
  ·rw [if_pos q1] at hq
   cases hq
   refine .inr ⟨_, List.mem_append_right _ (.head _), rfl, ?_⟩
   dsimp only
   rw [nS _ ve _ hvt hv2 hkk, if_pos ⟨rfl, rfl⟩, q1]
  ·rw [if_neg q1] at hq
   rcases h.gh q v hq hv with q2 | ⟨e', z1, z2, z3⟩
   ·rw [fS]
    rcases next_or h.fr with ⟨_, y2, y3⟩ | ⟨y1, _⟩
    ·rcases y3 _ q2 with y4 | y4
     ·exact absurd (by omega) q1
     ·exact .inl y4
    ·rw [y1] at q2; cases q2
   ·refine .inr ⟨e', List.mem_append_left _ z1, z2, ?_⟩
    obtain ⟨_, _, x1, x2, x3, v', x4, x5, x6⟩ := hB.ed e' (h.sub e' z1)
    rw [nS _ v' _ (hrs _ _ x4 x5) x5 (by omega), if_neg]
    ·exact z3
    ·rintro ⟨y1, y2⟩
     rw [y1, hv1] at x4
     cases x4
     rw [y2, hv3] at x6
     exact hn (by rw [x6]; exact List.mem_map.2 ⟨e', z1, rfl⟩)
theorem GI.all {T0 : MD} {L0 : MapO} {F : MapI} (hB : GB T0 L0) : ∀ (r P : MapO) (s : BS), GI T0 L0 P s → (∀ e, e ∈ r → e ∈ L0) → ((P ++ r).map (·.1)).Nodup → GI T0 L0 (P ++ r) (r.foldl (stepG F) s)
 | [], P, s, h, _, _ => by rw [List.append_nil]; exact h
 | e :: r, P, s, h, hs, hn => by
  have h1 := GI.step (F := F) hB h (hs e (.head _)) (by
   intro q
   rw [List.map_append, List.nodup_append] at hn
   exact hn.2.2 _ q _ (List.mem_map.2 ⟨e, .head _, rfl⟩) rfl)
  have := GI.all (F := F) hB r (P ++ [e]) (stepG F s e) h1 (fun x hx => hs x (.tail _ hx)) (by rw [List.append_assoc]; exact hn)
  rw [List.append_assoc] at this
  exact this
end Go.Proofs.Ytbanlhlggkdanaa
namespace Go.Proofs.Ytbanlhlggkdanaa
open Go.RowKit
def hasV (t : Tr) (v : Int) : Prop := t.v0 = v ∨ t.v1 = v ∨ t.v2 = v
instance (t : Tr) (v : Int) : Decidable (hasV t v) := inferInstanceAs (Decidable (_ ∨ _))
theorem tm3 {k j : Nat} (hk : k < 3) (hj : j < 3) : ((k : Int) + (j : Int)).tmod 3 = (((k + j) % 3 : Nat) : Int) := by
 match k, hk, j, hj with
 | 0, _, 0, _ => rfl
 | 0, _, 1, _ => rfl
 | 0, _, 2, _ => rfl
 | 1, _, 0, _ => rfl
 | 1, _, 1, _ => rfl
 | 1, _, 2, _ => rfl
 | 2, _, 0, _ => rfl
 | 2, _, 1, _ => rfl
 | 2, _, 2, _ => rfl
theorem v_get {t : Tr} {j : Nat} (hj : j < 3) : (#[.int .i64 t.v0, .int .i64 t.v1, .int .i64 t.v2, .int .i64 t.n0, .int .i64 t.n1, .int .i64 t.n2, .bool t.f0, .bool t.f1, .bool t.f2] : Array Value)[0 + ((j : Nat) : Int).toNat * 1]? = some (.int .i64 (t.v j)) := by
 match j, hj with
 | 0, _ => rfl
 | 1, _ => rfl
 | 2, _ => rfl
end Go.Proofs.Ytbanlhlggkdanaa
namespace Go.Proofs.Ytbanlhlggkdanaa
open Go.RowKit
def Tr.fl (t : Tr) (i : Nat) : Bool := if i = 0 then t.f0 else if i = 1 then t.f1 else t.f2
theorem na_get {t : Tr} {k : Nat} (hk : k < 3) : (#[.int .i64 t.v0, .int .i64 t.v1, .int .i64 t.v2, .int .i64 t.n0, .int .i64 t.n1, .int .i64 t.n2, .bool t.f0, .bool t.f1, .bool t.f2] : Array Value)[0 + 3 + ((k : Nat) : Int).toNat * 1]? = some (.int .i64 (t.n k)) := by
 match k, hk with
 | 0, _ => rfl
 | 1, _ => rfl
 | 2, _ => rfl
theorem fa_get {t : Tr} {k : Nat} (hk : k < 3) : (#[.int .i64 t.v0, .int .i64 t.v1, .int .i64 t.v2, .int .i64 t.n0, .int .i64 t.n1, .int .i64 t.n2, .bool t.f0, .bool t.f1, .bool t.f2] : Array Value)[0 + 6 + ((k : Nat) : Int).toNat * 1]? = some (.bool (t.fl k)) := by
 match k, hk with
 | 0, _ => rfl
 | 1, _ => rfl
 | 2, _ => rfl
def cntv (t : Tr) (x : Int) : Nat → Int
 | 0 => 0
 | k + 1 => cntv t x k + if t.v k = x then 1 else 0
def madeB (pts : List (Int × Int)) (t : Tr) : Bool :=
 if 0 < cntv t (-2) 3 then decide (cntv t (-2) 3 = 3) else if 0 < cntv t (-1) 3 then decide (cntv t (-1) 3 = 1)
 else decide (0 < A2 (ptAt pts t.v0).1 (ptAt pts t.v0).2 (ptAt pts t.v1).1 (ptAt pts t.v1).2 (ptAt pts t.v2).1 (ptAt pts t.v2).2)
def vOk (n : Nat) (t : Tr) : Prop := ∀ k, k < 3 → t.v k = -1 ∨ t.v k = -2 ∨ (0 ≤ t.v k ∧ t.v k < n)
end Go.Proofs.Ytbanlhlggkdanaa
namespace Go.Proofs.Ytbanlhlggkdanaa
open Go.RowKit
def besF (o t : Tr) (n : Int) (i : Nat) (f : Bool) (j : Nat) : Bool := if o.v ((j + 1) % 3) = t.v ((i + 2) % 3) ∧ o.v ((j + 2) % 3) = t.v ((i + 1) % 3) then (decide (o.n j = n) && (o.fl j == t.fl i)) else f
def besI (tris : List Tr) (t : Tr) (n : Int) (i : Nat) : Bool :=
 if t.n i < 0 ∨ tris.length ≤ t.n i ∨ (t.fl i = true ∧ (t.v ((i + 1) % 3) < 0 ∨ t.v ((i + 2) % 3) < 0)) then false
 else match tris[(t.n i).toNat]? with
  | some o => [0, 1, 2].foldl (besF o t n i) false
  | none => false
def besB (tris : List Tr) (t : Tr) (n : Int) : Bool := besI tris t n 0 && (besI tris t n 1 && besI tris t n 2)
end Go.Proofs.Ytbanlhlggkdanaa
namespace Go.Proofs.Ytbanlhlggkdanaa
open Go.RowKit
def fb (l : List Tr) (q k : Nat) : Option Bool := l[q]?.map fun t => t.fl k
theorem setN_f (t : Tr) (i : Nat) (u : Int) (k : Nat) : (t.setN i u).fl k = t.fl k := by
 unfold Tr.setN
 (repeat' split) <;> rfl
theorem setF_f (t : Tr) {i k : Nat} (f : Bool) (hi : i < 3) (hk : k < 3) : (t.setF i f).fl k = if k = i then f else t.fl k := by
 match i, hi, k, hk with
 | 0, _, 0, _ => rfl
 | 0, _, 1, _ => rfl
 | 0, _, 2, _ => rfl
 | 1, _, 0, _ => rfl
 | 1, _, 1, _ => rfl
 | 1, _, 2, _ => rfl
 | 2, _, 0, _ => rfl
 | 2, _, 1, _ => rfl
 | 2, _, 2, _ => rfl
theorem fb_modN (l : List Tr) (i j : Nat) (u : Int) (q k : Nat) : fb (l.modify i (·.setN j u)) q k = fb l q k := by
 unfold fb
 rw [List.getElem?_modify]
 cases l[q]? with
 | none => rfl
 | some t => by_cases h : i = q <;> simp [h, setN_f]
theorem fb_modF (l : List Tr) {i j : Nat} (f : Bool) {q k : Nat} (hj : j < 3) (hk : k < 3) : fb (l.modify i (·.setF j f)) q k = if q = i ∧ k = j then (fb l q k).map (fun _ => f) else fb l q k := by
 unfold fb
 rw [List.getElem?_modify]
 cases l[q]? with
 | none => simp
 | some t =>
  by_cases h : i = q
  ·subst h
   by_cases h2 : k = j
   ·subst h2; simp [setF_f t f hk hk]
   ·simp [setF_f t f hj hk, h2]
  ·have h' : ¬ q = i := fun e => h e.symm
   simp [h, h']
theorem fb_link (M : MD) {t i u j : Nat} (f : Bool) {q k : Nat} (hi : i < 3) (hj : j < 3) (hk : k < 3) : fb (M.link t i u j f).tris q k = if q = u ∧ k = j then (fb M.tris q k).map (fun _ => f) else if q = t ∧ k = i then (fb M.tris q k).map (fun _ => f) else fb M.tris q k := by
 unfold MD.link
 dsimp only
 rw [fb_modF _ _ hj hk, fb_modF _ _ hi hk, fb_modN, fb_modN]
 by_cases h1 : q = u ∧ k = j
 ·rw [if_pos h1, if_pos h1]
  by_cases h2 : q = t ∧ k = i
  ·rw [if_pos h2]; cases fb M.tris q k <;> rfl
  ·rw [if_neg h2]
 ·rw [if_neg h1, if_neg h1]
theorem fb_make (M : MD) (a b c : Int) (q j : Nat) (hq : q ≠ M.nextN.toNat) : fb (M.make a b c).tris q j = fb M.tris q j := by
 unfold fb MD.make
 unfold MD.nextN at hq
 dsimp only
 cases h : M.free.getLast? with
 | none =>
  rw [h] at hq
  dsimp only at hq ⊢
  rw [List.getElem?_append]
  by_cases h1 : q < M.tris.length
  ·rw [if_pos h1]
  ·rw [if_neg h1, List.getElem?_eq_none (by simp at hq ⊢; omega), List.getElem?_eq_none (by omega)]
 | some k =>
  rw [h] at hq
  dsimp only at hq ⊢
  rw [List.getElem?_set, if_neg (fun e => hq e.symm)]
theorem flt_comm (F : MapI) (a b : Int) : flt F a b = flt F b a := by
 unfold flt
 rw [Int.min_comm a b, Int.max_comm a b, ← Bool.and_assoc, ← Bool.and_assoc, Bool.and_comm (decide (0 ≤ a))]
theorem vw_fb {l : List Tr} {q k : Nat} {v : Int × Int × Int} (h : vw l q = some v) : ∃ x, fb l q k = some x := by
 unfold vw at h
 unfold fb
 cases hl : l[q]? with
 | none => rw [hl] at h; cases h
 | some t => exact ⟨_, rfl⟩
abbrev Slot := Nat × Nat × (Int × Int)
abbrev rev2 (e : Int × Int) : Int × Int := (e.2, e.1)
structure SI (F : MapI) (s : BS) (E : List Slot) : Prop where
 kn : (s.L.map (·.1)).Nodup
 vs : ∀ x, x ∈ E → x.2.1 < 3 ∧ ∃ v, vw s.M.tris x.1 = some v ∧ kv v x.2.1 = x.2.2
 ne : ∀ x, x ∈ E → x.2.2.1 ≠ x.2.2.2
 uq : ∀ x, x ∈ E → ∀ y, y ∈ E → x.2.2 = y.2.2 → x = y
 lk : ∀ x, x ∈ E → ∀ y, y ∈ E → y.2.2 = rev2 x.2.2 → nb s.M.tris x.1 x.2.1 = some (y.1 : Int) ∧ fb s.M.tris x.1 x.2.1 = some (flt F x.2.2.1 x.2.2.2)
 op : ∀ x, x ∈ E → (∀ y, y ∈ E → y.2.2 ≠ rev2 x.2.2) → mget x.2.2 s.L = some ((x.1 : Int), (x.2.1 : Int))
 ex : ∀ e v, mget e s.L = some v → ∃ x, x ∈ E ∧ x.2.2 = e ∧ v = ((x.1 : Int), (x.2.1 : Int)) ∧ ∀ y, y ∈ E → y.2.2 ≠ rev2 e
theorem SI.join {F : MapI} {s : BS} {E : List Slot} {n i : Nat} {v0 v1 v2 : Int} (h : SI F s E) (hi : i < 3) (hv : vw s.M.tris n = some (v0, v1, v2)) (hne : (kv (v0, v1, v2) i).1 ≠ (kv (v0, v1, v2) i).2) (hnew : ∀ x, x ∈ E → x.2.2 ≠ kv (v0, v1, v2) i) :
  SI F (joinE F n v0 v1 v2 s i) (E ++ [(n, i, kv (v0, v1, v2) i)]) := by
 have hpos : ∀ x, x ∈ E → ¬ (x.1 = n ∧ x.2.1 = i) := by
  rintro x hx ⟨e1, e2⟩
  obtain ⟨_, v, q1, q2⟩ := h.vs x hx
  rw [e1, hv] at q1
  cases q1
  exact hnew x hx (by rw [← q2, e2])
 have hg : (at3 v0 v1 v2 ((i + 2) % 3), at3 v0 v1 v2 ((i + 1) % 3)) = rev2 (kv (v0, v1, v2) i) := rfl
 have hk : (at3 v0 v1 v2 ((i + 1) % 3), at3 v0 v1 v2 ((i + 2) % 3)) = kv (v0, v1, v2) i := rfl
 have hf : flt F (at3 v0 v1 v2 ((i + 1) % 3)) (at3 v0 v1 v2 ((i + 2) % 3)) = flt F (kv (v0, v1, v2) i).1 (kv (v0, v1, v2) i).2 := rfl
 unfold joinE
 rw [hg, hk, hf]
 generalize kv (v0, v1, v2) i = e at *
 have hre : ∀ {e' : Int × Int}, e = rev2 e' → e' = rev2 e := fun q => by rw [q]
 have uqn : ∀ x, x ∈ E ++ [(n, i, e)] → ∀ y, y ∈ E ++ [(n, i, e)] → x.2.2 = y.2.2 → x = y := by
  intro x hx y hy hxy
  rcases List.mem_append.1 hx with hx | hx <;> rcases List.mem_append.1 hy with hy | hy
  ·exact h.uq x hx y hy hxy
  ·rw [List.mem_singleton] at hy; subst hy; exact absurd hxy (hnew x hx)
  ·rw [List.mem_singleton] at hx; subst hx; exact absurd hxy.symm (hnew y hy)
  ·rw [List.mem_singleton] at hx hy; rw [hx, hy]
 have nen : ∀ x, x ∈ E ++ [(n, i, e)] → x.2.2.1 ≠ x.2.2.2 := by
  intro x hx
  rcases List.mem_append.1 hx with hx | hx
  ·exact h.ne x hx
  ·rw [List.mem_singleton] at hx; subst hx; exact hne
 have her : e ≠ rev2 e := fun q => hne (congrArg Prod.fst q)
 cases hm : mget (rev2 e) s.L with
 | some w =>
  dsimp only
  obtain ⟨o, ho, ho1, ho2, ho3⟩ := h.ex _ _ hm
  have e1 : w.1.toNat = o.1 := by rw [ho2]; simp
  have e2 : w.2.toNat = o.2.1 := by rw [ho2]; simp
  rw [e1, e2]
  obtain ⟨hj, ov, hov, hokv⟩ := h.vs o ho
  have hon : ¬ (n = o.1 ∧ i = o.2.1) := fun q => hpos o ho ⟨q.1.symm, q.2.symm⟩
  have hother : ∀ x, x ∈ E → x.1 = o.1 → x.2.1 = o.2.1 → x.2.2 = rev2 e := by
   intro x hx q1 q2
   obtain ⟨_, v, p1, p2⟩ := h.vs x hx
   rw [q1, hov] at p1
   cases p1
   rw [← p2, q2, hokv, ho1]
  refine ⟨mdel_keys h.kn, fun x hx => ?_, nen, uqn, fun x hx y hy hxy => ?_, fun x hx hno => ?_, fun e' v hv' => ?_⟩
  ·rcases List.mem_append.1 hx with hx | hx
   ·obtain ⟨a1, v, a2, a3⟩ := h.vs x hx
    exact ⟨a1, v, by rw [vw_link]; exact a2, a3⟩
   ·rw [List.mem_singleton] at hx
    subst hx
    exact ⟨hi, _, by rw [vw_link]; exact hv, by assumption⟩
  ·rcases List.mem_append.1 hx with hx | hx <;> rcases List.mem_append.1 hy with hy | hy
   ·have k1 : ¬ (x.1 = o.1 ∧ x.2.1 = o.2.1) := fun q => hnew y hy (by rw [hxy, hother x hx q.1 q.2])
    have hx3 := (h.vs x hx).1
    rw [nb_link _ _ hi hj hx3, fb_link _ _ hi hj hx3, if_neg k1, if_neg (hpos x hx), if_neg k1, if_neg (hpos x hx)]
    exact h.lk x hx y hy hxy
   ·rw [List.mem_singleton] at hy
    subst hy
    have hxo : x = o := h.uq x hx o ho (by rw [ho1]; exact hre hxy)
    subst hxo
    obtain ⟨z, hz⟩ := vw_nb (k := x.2.1) hov
    obtain ⟨f, hf⟩ := vw_fb (k := x.2.1) hov
    rw [nb_link _ _ hi hj hj, fb_link _ _ hi hj hj, if_pos ⟨rfl, rfl⟩, if_pos ⟨rfl, rfl⟩, hz, hf, ho1, flt_comm]
    exact ⟨rfl, rfl⟩
   ·rw [List.mem_singleton] at hx
    subst hx
    have hyo : y = o := h.uq y hy o ho (by rw [ho1]; exact hxy)
    subst hyo
    obtain ⟨z, hz⟩ := vw_nb (k := i) hv
    obtain ⟨f, hf⟩ := vw_fb (k := i) hv
    rw [nb_link _ _ hi hj hi, fb_link _ _ hi hj hi, if_neg hon, if_pos ⟨rfl, rfl⟩, if_neg hon, if_pos ⟨rfl, rfl⟩, hz, hf]
    exact ⟨rfl, rfl⟩
   ·rw [List.mem_singleton] at hx hy
    subst hx; subst hy
    exact absurd hxy her
  ·rcases List.mem_append.1 hx with hx | hx
   ·rw [mget_mdel_ne]
    ·exact h.op x hx (fun y hy => hno y (List.mem_append_left _ hy))
    ·intro q
     exact hno (n, i, e) (List.mem_append_right _ (.head _)) (by rw [q])
   ·rw [List.mem_singleton] at hx
    subst hx
    exact absurd ho1 (hno o (List.mem_append_left _ ho))
  ·by_cases q : e' = rev2 e
   ·rw [q, mget_mdel_eq h.kn] at hv'; cases hv'
   ·rw [mget_mdel_ne q] at hv'
    obtain ⟨x, hx1, hx2, hx3, hx4⟩ := h.ex _ _ hv'
    refine ⟨x, List.mem_append_left _ hx1, hx2, hx3, fun y hy => ?_⟩
    rcases List.mem_append.1 hy with hy | hy
    ·exact hx4 y hy
    ·rw [List.mem_singleton] at hy
     subst hy
     exact fun p => q (hre p)
 | none =>
  dsimp only
  have hno : ∀ y, y ∈ E → y.2.2 ≠ rev2 e := by
   intro y hy q
   have := h.op y hy (fun z hz p => hnew z hz (by rw [p, q]))
   rw [q, hm] at this
   cases this
  refine ⟨mput_keys h.kn, fun x hx => ?_, nen, uqn, fun x hx y hy hxy => ?_, fun x hx hno' => ?_, fun e' v hv' => ?_⟩
  ·rcases List.mem_append.1 hx with hx | hx
   ·exact h.vs x hx
   ·rw [List.mem_singleton] at hx
    subst hx
    exact ⟨hi, _, hv, by assumption⟩
  ·rcases List.mem_append.1 hx with hx | hx <;> rcases List.mem_append.1 hy with hy | hy
   ·exact h.lk x hx y hy hxy
   ·rw [List.mem_singleton] at hy
    subst hy
    exact absurd (hre hxy) (hno x hx)
   ·rw [List.mem_singleton] at hx
    subst hx
    exact absurd hxy (hno y hy)
   ·rw [List.mem_singleton] at hx hy
    subst hx; subst hy
    exact absurd hxy her
  ·rcases List.mem_append.1 hx with hx | hx
   ·rw [mget_mput, if_neg (hnew x hx)]
    exact h.op x hx (fun y hy => hno' y (List.mem_append_left _ hy))
   ·rw [List.mem_singleton] at hx
    subst hx
    rw [mget_mput, if_pos rfl]
  ·rw [mget_mput] at hv'
   split at hv'
   ·rename_i q
    cases hv'
    refine ⟨(n, i, e), List.mem_append_right _ (.head _), q.symm, rfl, fun y hy => ?_⟩
    rw [q]
    rcases List.mem_append.1 hy with hy | hy
    ·exact hno y hy
    ·rw [List.mem_singleton] at hy; subst hy; exact her
   ·obtain ⟨x, hx1, hx2, hx3, hx4⟩ := h.ex _ _ hv'
    refine ⟨x, List.mem_append_left _ hx1, hx2, hx3, fun y hy => ?_⟩
    rcases List.mem_append.1 hy with hy | hy
    ·exact hx4 y hy
    ·rw [List.mem_singleton] at hy
     subst hy
     intro p
     rw [hre p, hm] at hv'
     cases hv'
def eds (v : Int × Int × Int) : List (Int × Int) := [kv v 0, kv v 1, kv v 2]
def slots (x : Nat × (Int × Int × Int)) : List Slot := [(x.1, 0, kv x.2 0), (x.1, 1, kv x.2 1), (x.1, 2, kv x.2 2)]
def dist3 (v : Int × Int × Int) : Prop := v.1 ≠ v.2.1 ∧ v.2.1 ≠ v.2.2 ∧ v.2.2 ≠ v.1
instance (v : Int × Int × Int) : Decidable (dist3 v) := inferInstanceAs (Decidable (_ ∧ _))
theorem joinE_same (F : MapI) (n : Nat) (v0 v1 v2 : Int) (s : BS) (i : Nat) : (∀ q, vw (joinE F n v0 v1 v2 s i).M.tris q = vw s.M.tris q) ∧ (joinE F n v0 v1 v2 s i).M.free = s.M.free ∧ (joinE F n v0 v1 v2 s i).M.tris.length = s.M.tris.length ∧ (joinE F n v0 v1 v2 s i).M.ats = s.M.ats ∧ (joinE F n v0 v1 v2 s i).M.pts = s.M.pts := by
 unfold joinE
 split
 ·exact ⟨fun q => vw_link .., rfl, link_len .., rfl, rfl⟩
 ·exact ⟨fun _ => rfl, rfl, rfl, rfl, rfl⟩
theorem joinB_same (F : MapI) (n : Nat) (v0 v1 v2 : Int) (s : BS) : (∀ q, vw (joinB F n v0 v1 v2 s).M.tris q = vw s.M.tris q) ∧ (joinB F n v0 v1 v2 s).M.free = s.M.free ∧ (joinB F n v0 v1 v2 s).M.tris.length = s.M.tris.length ∧ (joinB F n v0 v1 v2 s).M.ats = s.M.ats ∧ (joinB F n v0 v1 v2 s).M.pts = s.M.pts := by
 show (∀ q, vw (joinE F n v0 v1 v2 (joinE F n v0 v1 v2 (joinE F n v0 v1 v2 s 0) 1) 2).M.tris q = _) ∧ (joinE F n v0 v1 v2 (joinE F n v0 v1 v2 (joinE F n v0 v1 v2 s 0) 1) 2).M.free = _ ∧ (joinE F n v0 v1 v2 (joinE F n v0 v1 v2 (joinE F n v0 v1 v2 s 0) 1) 2).M.tris.length = _ ∧ (joinE F n v0 v1 v2 (joinE F n v0 v1 v2 (joinE F n v0 v1 v2 s 0) 1) 2).M.ats = _ ∧ (joinE F n v0 v1 v2 (joinE F n v0 v1 v2 (joinE F n v0 v1 v2 s 0) 1) 2).M.pts = _
 obtain ⟨a1, a2, a3, a4, a5⟩ := joinE_same F n v0 v1 v2 s 0
 obtain ⟨b1, b2, b3, b4, b5⟩ := joinE_same F n v0 v1 v2 (joinE F n v0 v1 v2 s 0) 1
 obtain ⟨c1, c2, c3, c4, c5⟩ := joinE_same F n v0 v1 v2 (joinE F n v0 v1 v2 (joinE F n v0 v1 v2 s 0) 1) 2
 exact ⟨fun q => (c1 q).trans ((b1 q).trans (a1 q)), c2.trans (b2.trans a2), c3.trans (b3.trans a3), c4.trans (b4.trans a4), c5.trans (b5.trans a5)⟩
theorem SI.joinB {F : MapI} {s : BS} {E : List Slot} {n : Nat} {v : Int × Int × Int} (h : SI F s E) (hv : vw s.M.tris n = some v) (hd : dist3 v) (hnew : ∀ e, e ∈ eds v → ∀ x, x ∈ E → x.2.2 ≠ e) : SI F (joinB F n v.1 v.2.1 v.2.2 s) (E ++ slots (n, v)) := by
 obtain ⟨v0, v1, v2⟩ := v
 obtain ⟨d1, d2, d3⟩ := hd
 dsimp only at d1 d2 d3
 have h0 := h.join (n := n) (i := 0) (by decide) hv d2 (hnew _ (.head _))
 obtain ⟨a1, _⟩ := joinE_same F n v0 v1 v2 s 0
 have h1 := h0.join (n := n) (i := 1) (by decide) ((a1 n).trans hv) d3 (fun x hx => by
  rcases List.mem_append.1 hx with hx | hx
  ·exact hnew _ (.tail _ (.head _)) x hx
  ·rw [List.mem_singleton] at hx
   subst hx
   intro q
   exact d3 (congrArg Prod.snd q))
 obtain ⟨b1, _⟩ := joinE_same F n v0 v1 v2 (joinE F n v0 v1 v2 s 0) 1
 have h2 := h1.join (n := n) (i := 2) (by decide) ((b1 n).trans ((a1 n).trans hv)) d1 (fun x hx => by
  rcases List.mem_append.1 hx with hx | hx
  ·rcases List.mem_append.1 hx with hx | hx
   ·exact hnew _ (.tail _ (.tail _ (.head _))) x hx
   ·rw [List.mem_singleton] at hx
    subst hx
    intro q
    exact d1 (congrArg Prod.fst q).symm
  ·rw [List.mem_singleton] at hx
   subst hx
   intro q
   exact d3 (congrArg Prod.fst q))
 rw [List.append_assoc, List.append_assoc] at h2
 exact h2
theorem SI.make {F : MapI} {M : MD} {L : MapO} {c : Nat} {E : List Slot} {v0 v1 v2 : Int} (h : SI F ⟨M, L, c⟩ E) (fr : ∀ k, k ∈ M.free → 0 ≤ k ∧ k < M.tris.length) (hn : ∀ x, x ∈ E → x.1 ≠ M.nextN.toNat) : SI F ⟨M.make v0 v1 v2, L, c⟩ E where
 kn := h.kn
 vs := fun x hx => by
  obtain ⟨a1, v, a2, a3⟩ := h.vs x hx
  exact ⟨a1, v, by dsimp only; rw [vw_make _ _ _ _ fr, if_neg (hn x hx)]; exact a2, a3⟩
 ne := h.ne
 uq := h.uq
 lk := fun x hx y hy hxy => by
  dsimp only
  rw [nb_make _ _ _ _ _ _ (hn x hx), fb_make _ _ _ _ _ _ (hn x hx)]
  exact h.lk x hx y hy hxy
 op := h.op
 ex := h.ex
def has3 (p : Int) (v : Int × Int × Int) : Prop := p = v.1 ∨ p = v.2.1 ∨ p = v.2.2
instance (p : Int) (v : Int × Int × Int) : Decidable (has3 p v) := inferInstanceAs (Decidable (_ ∨ _))
structure SM (F : MapI) (s : BS) (V : List (Nat × (Int × Int × Int))) : Prop where
 si : SI F s (V.flatMap slots)
 vs : ∀ x, x ∈ V → vw s.M.tris x.1 = some x.2
 fr : ∀ k, k ∈ s.M.free → 0 ≤ k ∧ k < s.M.tris.length
 fn : s.M.free.Nodup
 nf : ∀ x, x ∈ V → ¬ (x.1 : Int) ∈ s.M.free
 all : ∀ q v, vw s.M.tris q = some v → (q : Int) ∈ s.M.free ∨ (q, v) ∈ V
 gn : ∀ k, k ∈ s.M.free → vw s.M.tris k.toNat = some (-2, -2, -2)
 at_ : ∀ x, x ∈ V → ∀ p, has3 p x.2 → 0 ≤ p → p < s.M.ats.length → ∃ y, y ∈ V ∧ s.M.ats[p.toNat]? = some (y.1 : Int) ∧ has3 p y.2
theorem setAt_get {l : List Int} {v n p : Int} (h0 : 0 ≤ p) (h1 : p < l.length) : (setAt l v n)[p.toNat]? = if v = p then some n else l[p.toNat]? := by
 unfold setAt
 split
 ·rw [List.getElem?_set]
  by_cases q : v = p
  ·subst q; rw [if_pos rfl, if_pos (by omega), if_pos rfl]
  ·rw [if_neg (by omega), if_neg q]
 ·rw [if_neg (by omega)]
theorem eds_slots {E : List (Nat × (Int × Int × Int))} {y : Slot} (h : y ∈ E.flatMap slots) : ∃ x, x ∈ E ∧ y.1 = x.1 ∧ y.2.2 ∈ eds x.2 ∧ y.2.1 < 3 ∧ y.2.2 = kv x.2 y.2.1 := by
 obtain ⟨x, hx, hy⟩ := List.mem_flatMap.1 h
 refine ⟨x, hx, ?_⟩
 simp only [slots, List.mem_cons, List.not_mem_nil, or_false] at hy
 rcases hy with rfl | rfl | rfl
 ·exact ⟨rfl, .head _, (by decide : (0 : Nat) < 3), rfl⟩
 ·exact ⟨rfl, .tail _ (.head _), (by decide : (1 : Nat) < 3), rfl⟩
 ·exact ⟨rfl, .tail _ (.tail _ (.head _)), (by decide : (2 : Nat) < 3), rfl⟩
theorem slot_mem {V : List (Nat × (Int × Int × Int))} {x : Nat × (Int × Int × Int)} {k : Nat} (hx : x ∈ V) (hk : k < 3) : ((x.1, k, kv x.2 k) : Slot) ∈ V.flatMap slots := by
 refine List.mem_flatMap.2 ⟨x, hx, ?_⟩
 match k, hk with
 | 0, _ => exact .head _
 | 1, _ => exact .tail _ (.head _)
 | 2, _ => exact .tail _ (.tail _ (.head _))
theorem SM.step {F : MapI} {s : BS} {V : List (Nat × (Int × Int × Int))} {v : Int × Int × Int} (h : SM F s V) (hd : dist3 v) (hnew : ∀ e, e ∈ eds v → ∀ y, y ∈ V → ¬ e ∈ eds y.2) : SM F (stepT F s v) (V ++ [(s.M.nextN.toNat, v)]) := by
 have hu : ∀ x, x ∈ V → x.1 ≠ s.M.nextN.toNat := by
  intro x hx q
  have hlt := vw_lt (h.vs x hx)
  rcases next_or h.fr with ⟨p1, p2, _⟩ | ⟨_, p⟩
  ·exact h.nf x hx (by rw [q, Int.toNat_of_nonneg p2]; exact p1)
  ·rw [p] at q; omega
 have hE : ∀ x, x ∈ V.flatMap slots → x.1 ≠ s.M.nextN.toNat := by
  intro x hx
  obtain ⟨y, hy, e, _⟩ := eds_slots hx
  rw [e]; exact hu y hy
 have hm := SI.make (v0 := v.1) (v1 := v.2.1) (v2 := v.2.2) h.si h.fr hE
 have hvw : vw (s.M.make v.1 v.2.1 v.2.2).tris s.M.nextN.toNat = some v := by rw [vw_make _ _ _ _ h.fr, if_pos rfl]
 have hj := hm.joinB (n := s.M.nextN.toNat) (v := v) hvw hd (fun e he x hx q => by
  obtain ⟨y, hy, _, h2, _⟩ := eds_slots hx
  exact hnew e he y hy (q ▸ h2))
 obtain ⟨j1, j2, j3, j4, j5⟩ := joinB_same F s.M.nextN.toNat v.1 v.2.1 v.2.2 ⟨s.M.make v.1 v.2.1 v.2.2, s.L, s.c⟩
 have hvq : ∀ q, vw (stepT F s v).M.tris q = if q = s.M.nextN.toNat then some v else vw s.M.tris q := fun q => (j1 q).trans (vw_make _ _ _ _ h.fr q)
 have hfree : (stepT F s v).M.free = s.M.free.dropLast := j2
 have hats : (stepT F s v).M.ats = setAt (setAt (setAt s.M.ats v.1 s.M.nextN) v.2.1 s.M.nextN) v.2.2 s.M.nextN := j4
 have hN : ((s.M.nextN.toNat : Nat) : Int) = s.M.nextN := by
  rcases next_or h.fr with ⟨_, p2, _⟩ | ⟨_, p⟩
  ·exact Int.toNat_of_nonneg p2
  ·rw [p]; simp
 refine ⟨?_, fun x hx => ?_, fun k hk => ?_, ?_, fun x hx => ?_, fun q w hq => ?_, fun k hk => ?_, fun x hx p hp h0 h1 => ?_⟩
 ·rw [List.flatMap_append, List.flatMap_cons, List.flatMap_nil, List.append_nil]; exact hj
 ·rw [hvq]
  rcases List.mem_append.1 hx with hx | hx
  ·rw [if_neg (hu x hx)]; exact h.vs x hx
  ·rw [List.mem_singleton] at hx; subst hx; rw [if_pos rfl]
 ·rw [hfree] at hk
  have := h.fr k (List.dropLast_subset _ hk)
  have h2 := make_len_ge s.M v.1 v.2.1 v.2.2
  refine ⟨this.1, ?_⟩
  rw [show (stepT F s v).M.tris.length = (s.M.make v.1 v.2.1 v.2.2).tris.length from j3]
  omega
 ·rw [hfree]; exact h.fn.sublist (List.dropLast_sublist _)
 ·rw [hfree]
  rcases List.mem_append.1 hx with hx | hx
  ·exact fun q => h.nf x hx (List.dropLast_subset _ q)
  ·rw [List.mem_singleton] at hx
   subst hx
   dsimp only
   rw [hN]
   rcases next_drop h.fn with q | q
   ·exact q
   ·rw [q]; exact List.not_mem_nil
 ·rw [hvq] at hq
  split at hq
  ·rename_i e
   cases hq
   exact .inr (List.mem_append_right _ (by rw [e]; exact .head _))
  ·rename_i e
   rcases h.all q w hq with p | p
   ·rw [hfree]
    rcases next_or h.fr with ⟨_, _, p3⟩ | ⟨p3, _⟩
    ·rcases p3 _ p with p4 | p4
     ·exact absurd (by rw [← p4]; simp) e
     ·exact .inl p4
    ·rw [p3] at p; cases p
   ·exact .inr (List.mem_append_left _ p)
 ·rw [hfree] at hk
  have hk0 := h.fr k (List.dropLast_subset _ hk)
  rw [hvq, if_neg, h.gn k (List.dropLast_subset _ hk)]
  intro q
  have : k = s.M.nextN := by rw [← hN, ← q]; omega
  rcases next_drop h.fn with p | p
  ·exact p (this ▸ hk)
  ·rw [p] at hk; cases hk
 ·rw [hats] at h1 ⊢
  rw [setAt_len, setAt_len, setAt_len] at h1
  rw [setAt_get h0 (by rw [setAt_len, setAt_len]; exact h1), setAt_get h0 (by rw [setAt_len]; exact h1), setAt_get h0 h1]
  by_cases hpv : has3 p v
  ·refine ⟨(s.M.nextN.toNat, v), List.mem_append_right _ (.head _), ?_, hpv⟩
   rw [hN]
   rcases hpv with q | q | q
   ·rw [if_pos q.symm]; (repeat' split) <;> rfl
   ·rw [if_pos q.symm]; (repeat' split) <;> rfl
   ·rw [if_pos q.symm]
  ·rw [if_neg (fun q => hpv (.inr (.inr q.symm))), if_neg (fun q => hpv (.inr (.inl q.symm))), if_neg (fun q => hpv (.inl q.symm))]
   rcases List.mem_append.1 hx with hx | hx
   ·obtain ⟨y, y1, y2, y3⟩ := h.at_ x hx p hp h0 h1
    exact ⟨y, List.mem_append_left _ y1, y2, y3⟩
   ·rw [List.mem_singleton] at hx
    subst hx
    exact absurd hp hpv
theorem SM.many {F : MapI} : ∀ (l : List (Int × Int × Int)) {s : BS} {V : List (Nat × (Int × Int × Int))}, SM F s V → (∀ v, v ∈ l → dist3 v) → (V.flatMap (fun x => eds x.2) ++ l.flatMap eds).Nodup → ∃ V', SM F (l.foldl (stepT F) s) (V ++ V') ∧ V'.map (·.2) = l
 | [], s, V, h, _, _ => ⟨[], by rw [List.append_nil]; exact h, rfl⟩
 | v :: l, s, V, h, hd, hn => by
  rw [List.flatMap_cons, ← List.append_assoc] at hn
  have h1 := h.step (v := v) (hd v (.head _)) (fun e he y hy q => by
   have := (List.nodup_append.1 (List.nodup_append.1 hn).1).2.2 e (List.mem_flatMap.2 ⟨y, hy, q⟩) e he
   exact this rfl)
  obtain ⟨V', a1, a2⟩ := SM.many l h1 (fun w hw => hd w (.tail _ hw)) (by
   rw [List.flatMap_append, List.flatMap_cons, List.flatMap_nil, List.append_nil]
   exact hn)
  refine ⟨(s.M.nextN.toNat, v) :: V', ?_, by rw [List.map_cons, a2]⟩
  rw [List.append_assoc] at a1
  exact a1
theorem four {l : List Tr} (h : l.length = 4) : ∃ a b c d, l = [a, b, c, d] := by
 match l, h with
 | [a, b, c, d], _ => exact ⟨a, b, c, d, rfl⟩
theorem bs0_SM (F : MapI) (pts : List (Int × Int)) (a b c : Int) : SM F (bs0 pts a b c) [] := by
 have hl : (newM pts a b c).tris.length = 4 := by simp [newM, newM0, MD.make, MD.link]
 have hf : (newM pts a b c).free = [] := by simp [newM, newM0, MD.make, MD.link]
 obtain ⟨x, y, z, w, hx⟩ := four hl
 have ht : (bs0 pts a b c).M.tris = [Tr.gone, Tr.gone, Tr.gone, Tr.gone] := by
  show (mesh0 pts a b c).tris = _
  unfold mesh0 MD.drop
  dsimp only
  rw [hx]
  rfl
 have hfr : (bs0 pts a b c).M.free = [0, 1, 2, 3] := by
  show (mesh0 pts a b c).free = _
  unfold mesh0 MD.drop
  dsimp only
  rw [hf]
  rfl
 refine ⟨⟨List.nodup_nil, fun _ h => (nomatch h), fun _ h => (nomatch h), fun _ h => (nomatch h), fun _ h => (nomatch h), fun _ h => (nomatch h), fun e v h => ?_⟩, fun _ h => (nomatch h), fun k hk => ?_, ?_, fun _ h => (nomatch h), fun q v hq => ?_, fun k hk => ?_, fun _ h => (nomatch h)⟩
 ·rw [show (bs0 pts a b c).L = [] from rfl, mget_nil] at h; cases h
 ·rw [hfr] at hk
  rw [ht]
  simp at hk ⊢
  omega
 ·rw [hfr]; decide
 ·rw [ht] at hq
  rw [hfr]
  have := vw_lt hq
  simp at this
  left
  simp
  omega
 ·rw [hfr] at hk
  rw [ht]
  simp at hk
  rcases hk with rfl | rfl | rfl | rfl <;> rfl
end Go.Proofs.Ytbanlhlggkdanaa
set_option linter.unusedSectionVars false
namespace Go.Proofs.Ytbanlhlggkdanaa
open Go.RowKit
section
variable {κ ν : Type} [DecidableEq κ]
end
section
variable {E : Env} {Q : Qt} {σ : List (Nat × Value)} {μ φ ml pl : List Res} {ops : Array Oper} {fuel : Nat} {listed : Array Bool} {ty : TypeId} {pos : String} {af : Array Edge} {gd : Option (Nat × Bool)} {d : Tmp}
variable {κ ν : Type} [DecidableEq κ] {f : κ → Value} {g : ν → Value} {l : List (κ × ν × Nat)} {c r : Nat}
end
end Go.Proofs.Ytbanlhlggkdanaa
namespace Go.Proofs.Ytbanlhlggkdanaa
open Go.RowKit
section
variable {E : Env} {ty : TypeId} {σ : List (Nat × Value)} {μ φ : List Res}
theorem YJ_sliceArr {xt e : TypeId} {x : Operand} {ad : Addr} {n size : Nat} (hx : oev σ x = some (.pointer (some ad))) (he : arrt E.P xt = some (n, e, size)) :
  YJ E (.slice xt x none none none) ty σ μ φ (.slice (some ad) n n) := fun ac w _ _ _ _ hs _ _ => by
 unfold arrt at he
 cases hu : E.P.underlying xt with
 | none => rw [hu] at he; simp at he
 | some d =>
  rw [hu] at he
  cases d <;> simp at he
  rename_i n' e'
  obtain ⟨i', hi, rfl, rfl, rfl⟩ := he
  simp only [execOp, Option.map_none, hs.ev hx]
  simp [Instr.sliceAt, run_underlying hu, sizeOf, typeInfo, hi, Instr.sureAddr, Instr.sliceBounds, Addr.add]
theorem Tri_of_callsF {P : Program} {f : FuncId} {args : List Value} {v : Value} (hE : Enter P f = true) (h : ∀ w T, Fac w φ T → Calls P f args.toArray w fun e w' => e = .returned v ∧ w' = w) : Tri P f args [] φ (Ret0 v) :=
 ⟨hE, fun w S T hS hF hd hlt => (h w T hF).mono fun _ _ ⟨he, hw⟩ => by
  subst hw
  exact ⟨v, [], [], he, ⟨rfl, rfl, rfl⟩, Keeps.refl _ _, S, T, hS, (fun r hr => nomatch hr), hd, fun k hk => Or.inl hk, fun k hk => Or.inl hk, hlt⟩⟩
end
end Go.Proofs.Ytbanlhlggkdanaa
namespace Go.Proofs.Ytbanlhlggkdanaa
open Go.RowKit
def plc (t : Tr) (v : Int) : Int := Lib.idxOf [t.v0, t.v1, t.v2] v
theorem trCells_n {l : List Tr} {i k : Nat} {t : Tr} (h : l[i]? = some t) (hk : k < 3) : (trCells l)[i * 9 + (3 + k)]? = some (.int .i64 (t.n k)) := by
 rw [trCells_get h (by omega)]
 match k, hk with
 | 0, _ => rfl
 | 1, _ => rfl
 | 2, _ => rfl
def nxt (tris : List Tr) (v x : Int) : Int := match tris[x.toNat]? with
 | some t => t.n (((plc t v).toNat + 1) % 3)
 | none => -1
def itr (tris : List Tr) (v : Int) : Nat → Int → Int
 | 0, x => x
 | n + 1, x => nxt tris v (itr tris v n x)
structure RndOk (tris : List Tr) (v fr : Int) (n : Nat) : Prop where
 one : 1 ≤ n
 hi : n ≤ tris.length + 1
 no : ∀ j, 0 < j → j < n → itr tris v j fr ≠ fr
 fin : itr tris v n fr = fr ∨ tris.length < n
end Go.Proofs.Ytbanlhlggkdanaa
namespace Go.Proofs.Ytbanlhlggkdanaa
open Go.RowKit
theorem keyI : KeyT Try.prog 3 gI := keyInt (q := .i64) (by kernel_rfl)
abbrev MI := List (Int × Int × Nat)
def cntA (x : Int) : List Tr → Int
 | [] => 0
 | t :: l => cntv t x 3 + cntA x l
structure CI (tris : List Tr) (c : Int → Int) (Lc : MI) (cc : Nat) (Lo : MI) : Prop where
 c0 : ∀ v, v ≠ -2 → (mget v Lc).getD 0 = c v
 kc : ∀ e, e ∈ Lc → e.1 ≠ -2 ∧ 0 < e.2.1
 bn : (Lc.map (·.2.2)).Nodup
 bc : ∀ e, e ∈ Lc → e.2.2 < cc
 kn : (Lc.map (·.1)).Nodup
 o : ∀ v n, mget v Lo = some n → 0 ≤ n ∧ ∃ (t : Tr) (k : Nat), tris[n.toNat]? = some t ∧ k < 3 ∧ t.v k = v
 oc : ∀ e, e ∈ Lc → ∃ n, mget e.1 Lo = some n
theorem CI.nil (tris : List Tr) {c : Int → Int} (h : ∀ v, c v = 0) : CI tris c [] 0 [] :=
 ⟨fun v _ => (h v).symm, fun _ h => (nomatch h), List.nodup_nil, fun _ h => (nomatch h), List.nodup_nil, (fun v n h => by rw [mget_nil] at h; cases h), fun _ h => (nomatch h)⟩
theorem CI.congr {tris : List Tr} {c c' : Int → Int} {Lc Lo : MI} {cc : Nat} (h : CI tris c Lc cc Lo) (he : ∀ v, v ≠ -2 → c v = c' v) : CI tris c' Lc cc Lo := ⟨fun v hv => (h.c0 v hv).trans (he v hv), h.2, h.3, h.4, h.5, h.6, h.7⟩
theorem CI.step {tris : List Tr} {c : Int → Int} {Lc Lo : MI} {cc co n k : Nat} {t : Tr} (h : CI tris c Lc cc Lo) (ht : tris[n]? = some t) (hk : k < 3) (hv : t.v k ≠ -2) (hc : ∀ v, 0 ≤ c v) :
  CI tris (fun x => c x + if t.v k = x then 1 else 0) (mput (t.v k) ((mget (t.v k) Lc).getD 0 + 1) Lc cc) (mclk (t.v k) Lc cc) (mput (t.v k) (n : Int) Lo co) := by
 have hb := mput_born (k := t.v k) (v := (mget (t.v k) Lc).getD 0 + 1) h.bc h.bn
 have hn := mput_keys (k := t.v k) (v := (mget (t.v k) Lc).getD 0 + 1) (c := cc) h.kn
 have hmem : ∀ e, e ∈ mput (t.v k) ((mget (t.v k) Lc).getD 0 + 1) Lc cc → (e.1 = t.v k ∧ e.2.1 = (mget (t.v k) Lc).getD 0 + 1) ∨ ∃ e', e' ∈ Lc ∧ e'.1 = e.1 ∧ e'.2.1 = e.2.1 := by
  intro e he
  have := mget_of_mem hn he
  rw [mget_mput] at this
  split at this
  ·rename_i q
   exact .inl ⟨q, (Option.some.inj this).symm⟩
  ·exact .inr (mget_mem this)
 refine ⟨fun v hv2 => ?_, fun e he => ?_, hb.1, hb.2, hn, fun v m hm => ?_, fun e he => ?_⟩
 ·rw [mget_mput]
  by_cases q : v = t.v k
  ·subst q
   rw [if_pos rfl, if_pos rfl, ← h.c0 _ hv]
   rfl
  ·rw [if_neg q, if_neg (fun e => q e.symm), h.c0 v hv2]
   omega
 ·rcases hmem e he with ⟨q1, q2⟩ | ⟨e', he', q1, q2⟩
  ·have := hc (t.v k)
   rw [← h.c0 _ hv] at this
   exact ⟨q1 ▸ hv, by rw [q2]; omega⟩
  ·rw [← q1, ← q2]; exact h.kc e' he'
 ·rw [mget_mput] at hm
  split at hm
  ·rename_i q
   cases hm
   exact ⟨Int.natCast_nonneg n, t, k, by simpa using ht, hk, q.symm⟩
  ·exact h.o v m hm
 ·rw [mget_mput]
  split
  ·exact ⟨_, rfl⟩
  ·rename_i q
   rcases hmem e he with ⟨q1, _⟩ | ⟨e', he', q1, _⟩
   ·exact absurd q1 q
   ·rw [← q1]; exact h.oc e' he'
structure StOk (tris : List Tr) (ats : List Int) : Prop where
 cl : ∀ (v : Int) (n k : Nat) (t : Tr), v ≠ -2 → tris[n]? = some t → k < 3 → t.v k = v → ∃ S : Int → Prop, S (n : Int) ∧ ∀ x, S x → 0 ≤ x ∧ ∃ (t : Tr) (p : Nat), tris[x.toNat]? = some t ∧ plc t v = p ∧ p < 3 ∧ S (t.n ((p + 1) % 3))
 rd : ∀ (v : Int) (n k : Nat) (t : Tr) (m : Nat), v ≠ -2 → tris[n]? = some t → k < 3 → t.v k = v → RndOk tris v n m → (m : Int) = cntA v tris
 at_ : ∀ (v : Nat) (a : Int), ats[v]? = some a → (a < 0 ↔ cntA v tris = 0) ∧ a < tris.length ∧ (0 ≤ a → ∃ t, tris[a.toNat]? = some t ∧ 0 ≤ plc t v)
 gh : 0 < cntA (-1) tris
end Go.Proofs.Ytbanlhlggkdanaa
namespace Go.Proofs.Ytbanlhlggkdanaa
open Go.RowKit
def hullE (tris : List Tr) (t : Tr) (s : MI × Nat × Int) (k : Nat) : MI × Nat × Int :=
 if isReal tris (t.n k) then s else (mput (t.v ((k + 1) % 3)) (t.v ((k + 2) % 3)) s.1 s.2.1, mclk (t.v ((k + 1) % 3)) s.1 s.2.1, min s.2.2 (t.v ((k + 1) % 3)))
def hullT (tris : List Tr) (s : MI × Nat × Int) (x : Nat × Tr) : MI × Nat × Int := [0, 1, 2].foldl (hullE tris x.2) s
def hullM (tris : List Tr) (n0 : Int) : MI × Nat × Int := (reals tris).foldl (hullT tris) ([], 0, n0)
def itN (L : MI) : Nat → Int → Int
 | 0, v => v
 | n + 1, v => (mget (itN L n v) L).getD 0
def hullW (s : MI × Nat × Int) : List Int := (List.range s.1.length).map fun i => itN s.1 i s.2.2
def hullOf (tris : List Tr) (n0 : Int) : List Int := hullW (hullM tris n0)
end Go.Proofs.Ytbanlhlggkdanaa
namespace Go.Proofs.Ytbanlhlggkdanaa
open Go.RowKit
abbrev A2p (pts : List (Int × Int)) (a b c : Int) : Int := A2 (ptAt pts a).1 (ptAt pts a).2 (ptAt pts b).1 (ptAt pts b).2 (ptAt pts c).1 (ptAt pts c).2
def sumA (pts : List (Int × Int)) (l : List (Nat × Tr)) : Int := (l.map fun x => A2p pts x.2.v0 x.2.v1 x.2.v2).sum
def outT (pts : List (Int × Int)) (l : List Int) (k : Nat) : Int := A2p pts (l.getD 0 0) (l.getD k 0) (l.getD ((k + 1) % l.length) 0)
def outA (pts : List (Int × Int)) (l : List Int) (k : Nat) : Int := ((List.range k).map (outT pts l)).sum
theorem dl_sum {s : Int} {n : Nat} (h : s.natAbs ≤ n * 170141183460469231731687303715884105728) (hn : n ≤ 10000000) : dl s ≤ 3 := dl_le (by
 have e : BB ^ 3 = 6277101735386680763835789423207666416102355444464034512896 := by decide
 rw [e]
 omega)
theorem A2_abs {a1 a2 e1 e2 c1 c2 : Int} (ha : P2 a1 a2) (hb : P2 e1 e2) (hc : P2 c1 c2) : (A2 a1 a2 e1 e2 c1 c2).natAbs ≤ 170141183460469231731687303715884105728 := by
 have := A2_r ha hb hc
 unfold R128 at this
 omega
theorem getD_of {l : List Int} {k : Nat} {a : Int} (h : l[k]? = some a) : l.getD k 0 = a := by rw [List.getD_eq_getElem?_getD, h]; rfl
theorem Iv_at {l : List Int} {k : Nat} {a : Int} (h : l[k]? = some a) : (Iv l)[k]? = some (.int .i64 a) := by rw [Iv, List.getElem?_map, h]; rfl
end Go.Proofs.Ytbanlhlggkdanaa
namespace Go.Proofs.Ytbanlhlggkdanaa
open Go.RowKit
abbrev MW := List ((Int × Int) × Int × Nat)
def edT (t : Tr) (k : Nat) : Int × Int := (t.v ((k + 1) % 3), t.v ((k + 2) % 3))
def edTs (t : Tr) : List (Int × Int) := [edT t 0, edT t 1, edT t 2]
def liveE (l : List Tr) : List (Int × Int) := l.flatMap fun t => if t.v0 = -2 then [] else edTs t
def okT (pts : List (Int × Int)) (tris : List Tr) (t : Tr) (n : Nat) : Bool := madeB pts t && (decide (t.v0 = -2) || besB tris t (n : Nat))
def sndP (pts : List (Int × Int)) (tris : List Tr) : Prop := (liveE tris).Nodup ∧ ∀ (n : Nat) (t : Tr), tris[n]? = some t → okT pts tris t n = true
structure WI (pts : List (Int × Int)) (tris : List Tr) (n : Nat) (es : List (Int × Int)) (L : MW) (c : Nat) : Prop where
 nd : es.Nodup
 ok : ∀ (q : Nat) (t : Tr), q < n → tris[q]? = some t → okT pts tris t q = true
 gt : ∀ w, (mget w L).getD 0 = if w ∈ es then 1 else 0
 bn : (L.map (·.2.2)).Nodup
 bc : ∀ e, e ∈ L → e.2.2 < c
theorem WI.edge {pts : List (Int × Int)} {tris : List Tr} {n : Nat} {es : List (Int × Int)} {L : MW} {c : Nat} {w : Int × Int} (h : WI pts tris n es L c) (hw : ¬ w ∈ es) : WI pts tris n (es ++ [w]) (mput w ((mget w L).getD 0 + 1) L c) (mclk w L c) := by
 have hb := mput_born (k := w) (v := (mget w L).getD 0 + 1) h.bc h.bn
 refine ⟨?_, h.ok, fun x => ?_, hb.1, hb.2⟩
 ·rw [List.nodup_append]
  refine ⟨h.nd, by simp, fun a ha b hb => ?_⟩
  rw [List.mem_singleton] at hb
  subst hb
  exact fun q => hw (q ▸ ha)
 ·rw [mget_mput]
  by_cases q : x = w
  ·subst q
   rw [if_pos rfl, if_pos (List.mem_append_right _ (.head _)), h.gt, if_neg hw]
   rfl
  ·rw [if_neg q, h.gt]
   by_cases p : x ∈ es
   ·rw [if_pos p, if_pos (List.mem_append_left _ p)]
   ·rw [if_neg p, if_neg]
    intro r
    rcases List.mem_append.1 r with r | r
    ·exact p r
    ·rw [List.mem_singleton] at r; exact q r
theorem WI.next {pts : List (Int × Int)} {tris : List Tr} {n : Nat} {es es' : List (Int × Int)} {L : MW} {c : Nat} {t : Tr} (h : WI pts tris n es L c) (ht : tris[n]? = some t) (hok : okT pts tris t n = true) (he : es = es') : WI pts tris (n + 1) es' L c := by
 subst he
 refine ⟨h.nd, fun q u hq hu => ?_, h.gt, h.bn, h.bc⟩
 rcases Nat.lt_succ_iff_lt_or_eq.1 hq with p | p
 ·exact h.ok q u p hu
 ·subst p
  rw [ht] at hu
  cases hu
  exact hok
structure ArOk (pts : List (Int × Int)) (tris : List Tr) : Prop where
 lv : ∀ v, v ∈ hullOf tris (pts.length : Nat) → 0 ≤ v ∧ v < pts.length
 cv : ∀ (i : Nat) (a b c : Int), (hullOf tris (pts.length : Nat))[i]? = some a → (hullOf tris (pts.length : Nat))[(i + 1) % (hullOf tris (pts.length : Nat)).length]? = some b → c ∈ hullOf tris (pts.length : Nat) → 0 ≤ A2p pts a b c
 sum : sumA pts (reals tris) = outA pts (hullOf tris (pts.length : Nat)) (hullOf tris (pts.length : Nat)).length
end Go.Proofs.Ytbanlhlggkdanaa
namespace Go.Proofs.Ytbanlhlggkdanaa
open Go.RowKit
section
variable {E : Env} {Q : Qt} {σ : List (Nat × Value)} {μ φ : List Res} {ops : Array Oper} {rest : List Oper} {cd : Code} {B : Nat} {M : MD}
def frzFs (B : Nat) (M : MD) (h : Mh) : List Res := meshFs B h M.pts M.tris ++ [sliceR 1 h.F M.free.length (Iv M.free), sliceR 1 h.A M.ats.length (Iv M.ats)]
theorem frz_mesh {h : Mh} : ∀ r, r ∈ meshFs B h M.pts M.tris → r ∈ frzFs B M h ++ φ := fun r hr => List.mem_append_left _ (List.mem_append_left _ hr)
end
theorem eqs_ptr (a : Addr) (x y : Operand) (w : World) :
  (do eqGuard .eql 28 x y (.pointer (some a)) (.pointer none); binOp .eql 28 (.pointer (some a)) (.pointer none) : Sem Value).run Try.prog w = .ok (.bool false) w := by
 simp only [Sem.run_bind]
 rw [show (eqGuard .eql 28 x y (.pointer (some a)) (.pointer none)) = pure () from rfl]
 simp only [Sem.run_pure, Result.andThen_ok]
 rw [run_eql_pointer_nil w 28 (some a) (by kernel_rfl)]
 rfl
def triNew (a b c : Int) : List Tr := [⟨a, b, c, 1, 2, 3, false, false, false⟩, ⟨c, b, -1, 3, 2, 0, false, false, false⟩, ⟨a, c, -1, 1, 3, 0, false, false, false⟩, ⟨b, a, -1, 2, 1, 0, false, false, false⟩]
end Go.Proofs.Ytbanlhlggkdanaa
namespace Go.Proofs.Ytbanlhlggkdanaa
open Go.RowKit
theorem idx3 (x y z v : Int) : Lib.idxOf [x, y, z] v = if x = v then 0 else if y = v then 1 else if z = v then 2 else -1 := by
 simp only [Lib.idxOf, Lib.idxFrom]
 by_cases h1 : x = v
 ·simp [h1]
 ·by_cases h2 : y = v
  ·simp [h1, h2]
  ·by_cases h3 : z = v <;> simp [h1, h2, h3]
theorem plc_eq (t : Tr) (v : Int) : plc t v = if t.v0 = v then 0 else if t.v1 = v then 1 else if t.v2 = v then 2 else -1 := idx3 ..
theorem plc_has {t : Tr} {v : Int} {k : Nat} (hk : k < 3) (h : t.v k = v) : ∃ p : Nat, plc t v = p ∧ p < 3 ∧ t.v p = v := by
 rw [plc_eq]
 by_cases h0 : t.v0 = v
 ·exact ⟨0, by rw [if_pos h0]; rfl, by decide, h0⟩
 ·rw [if_neg h0]
  by_cases h1 : t.v1 = v
  ·exact ⟨1, by rw [if_pos h1]; rfl, by decide, h1⟩
  ·rw [if_neg h1]
   by_cases h2 : t.v2 = v
   ·exact ⟨2, by rw [if_pos h2]; rfl, by decide, h2⟩
   ·exfalso
    match k, hk with
    | 0, _ => exact h0 h
    | 1, _ => exact h1 h
    | 2, _ => exact h2 h
theorem besI_iff {tris : List Tr} {t : Tr} {n : Int} {i : Nat} (h : besI tris t n i = true) : 0 ≤ t.n i ∧ ∃ (o : Tr) (j : Nat), tris[(t.n i).toNat]? = some o ∧ j < 3 ∧ o.v ((j + 1) % 3) = t.v ((i + 2) % 3) ∧ o.v ((j + 2) % 3) = t.v ((i + 1) % 3) ∧ o.n j = n ∧ o.fl j = t.fl i := by
 unfold besI at h
 split at h
 ·cases h
 ·rename_i hn
  have h0 : 0 ≤ t.n i := by omega
  cases ho : tris[(t.n i).toNat]? with
  | none => rw [ho] at h; cases h
  | some o =>
   rw [ho] at h
   dsimp only at h
   refine ⟨h0, o, ?_⟩
   have step : ∀ (f : Bool) (j : Nat), besF o t n i f j = true → (o.v ((j + 1) % 3) = t.v ((i + 2) % 3) ∧ o.v ((j + 2) % 3) = t.v ((i + 1) % 3) ∧ o.n j = n ∧ o.fl j = t.fl i) ∨ f = true := by
    intro f j q
    unfold besF at q
    split at q
    ·rename_i p
     rw [Bool.and_eq_true, decide_eq_true_eq, beq_iff_eq] at q
     exact .inl ⟨p.1, p.2, q.1, q.2⟩
    ·exact .inr q
   have h2 : besF o t n i (besF o t n i (besF o t n i false 0) 1) 2 = true := h
   rcases step _ _ h2 with q | q
   ·exact ⟨2, rfl, by decide, q⟩
   ·rcases step _ _ q with q | q
    ·exact ⟨1, rfl, by decide, q⟩
    ·rcases step _ _ q with q | q
     ·exact ⟨0, rfl, by decide, q⟩
     ·cases q
theorem besB_iff {tris : List Tr} {t : Tr} {n : Int} {i : Nat} (h : besB tris t n = true) (hi : i < 3) : besI tris t n i = true := by
 unfold besB at h
 rw [Bool.and_eq_true, Bool.and_eq_true] at h
 match i, hi with
 | 0, _ => exact h.1
 | 1, _ => exact h.2.1
 | 2, _ => exact h.2.2
theorem gone_all {pts : List (Int × Int)} {t : Tr} (h : madeB pts t = true) (h0 : t.v0 = -2) : ∀ k, k < 3 → t.v k = -2 := by
 have e0 : t.v 0 = t.v0 := rfl
 have e1 : t.v 1 = t.v1 := rfl
 have e2 : t.v 2 = t.v2 := rfl
 have hc : cntv t (-2) 3 = (if t.v0 = -2 then 1 else 0) + (if t.v1 = -2 then 1 else 0) + (if t.v2 = -2 then 1 else 0) := by
  simp only [cntv, e0, e1, e2, Int.zero_add]
 unfold madeB at h
 rw [if_pos (by rw [hc, if_pos h0]; (repeat' split) <;> omega), decide_eq_true_eq, hc, if_pos h0] at h
 intro k hk
 match k, hk with
 | 0, _ => exact h0
 | 1, _ => rw [e1]; (repeat' split at h) <;> omega
 | 2, _ => rw [e2]; (repeat' split at h) <;> omega
theorem snd_cl {pts : List (Int × Int)} {tris : List Tr} (h : sndP pts tris) (v : Int) (n k : Nat) (t : Tr) (hv : v ≠ -2) (ht : tris[n]? = some t) (hk : k < 3) (he : t.v k = v) : ∃ S : Int → Prop, S (n : Int) ∧ ∀ x, S x → 0 ≤ x ∧ ∃ (t : Tr) (p : Nat), tris[x.toNat]? = some t ∧ plc t v = p ∧ p < 3 ∧ S (t.n ((p + 1) % 3)) := by
 refine ⟨fun x => 0 ≤ x ∧ ∃ (t : Tr) (k : Nat), tris[x.toNat]? = some t ∧ k < 3 ∧ t.v k = v, ⟨Int.natCast_nonneg n, t, k, by simpa using ht, hk, he⟩, ?_⟩
 rintro x ⟨hx, u, j, hu, hj, huv⟩
 obtain ⟨p, hp, hp3, hpv⟩ := plc_has hj huv
 refine ⟨hx, u, p, hu, hp, hp3, ?_⟩
 have hok := h.2 _ _ hu
 unfold okT at hok
 rw [Bool.and_eq_true, Bool.or_eq_true, decide_eq_true_eq] at hok
 have hb : besB tris u ((x.toNat : Nat) : Int) = true := by
  rcases hok.2 with q | q
  ·exact absurd (gone_all hok.1 q j hj) (by rw [huv]; exact hv)
  ·exact q
 obtain ⟨h0, o, j', ho, hj', e1, e2, _⟩ := besI_iff (besB_iff hb (Nat.mod_lt (p + 1) (by decide : 0 < 3)))
 refine ⟨h0, o, (j' + 1) % 3, ho, Nat.mod_lt _ (by decide), ?_⟩
 rw [e1, show ((p + 1) % 3 + 2) % 3 = p by omega]
 exact hpv
theorem rnd_is {tris : List Tr} {v fr : Int} {m M : Nat} (h : RndOk tris v fr m) (h1 : 1 ≤ M) (h2 : M ≤ tris.length) (h3 : itr tris v M fr = fr) (h4 : ∀ j, 0 < j → j < M → itr tris v j fr ≠ fr) : m = M := by
 have a := h.one
 have b : m ≤ M := by
  apply Classical.byContradiction
  intro q
  exact h.no M h1 (by omega) h3
 rcases h.fin with q | q
 ·apply Classical.byContradiction
  intro r
  exact h4 m a (by omega) q
 ·omega
section
variable {pts : List (Int × Int)} {a b c : Nat}
end
end Go.Proofs.Ytbanlhlggkdanaa
namespace Go.Proofs.Ytbanlhlggkdanaa
open Go.RowKit
abbrev T3 := Int × Int × Int
def tv (v : T3) (k : Nat) : Int := at3 v.1 v.2.1 v.2.2 k
theorem kv_tv (v : T3) (k : Nat) : kv v k = (tv v ((k + 1) % 3), tv v ((k + 2) % 3)) := rfl
theorem vw_iff {l : List Tr} {q : Nat} {v : T3} : vw l q = some v ↔ ∃ t, l[q]? = some t ∧ (t.v0, t.v1, t.v2) = v := by
 unfold vw
 cases l[q]? with
 | none => simp
 | some t => simp
structure LM (F : MapI) (tris : List Tr) (V : List (Nat × T3)) : Prop where
 vs : ∀ x, x ∈ V → vw tris x.1 = some x.2
 al : ∀ q v, vw tris q = some v → v = (-2, -2, -2) ∨ (q, v) ∈ V
 lk : ∀ x, x ∈ V → ∀ k, k < 3 → ∀ y, y ∈ V → ∀ j, j < 3 → kv y.2 j = rev2 (kv x.2 k) → nb tris x.1 k = some (y.1 : Int) ∧ fb tris x.1 k = some (flt F (kv x.2 k).1 (kv x.2 k).2)
 un : ∀ x, x ∈ V → ∀ k, k < 3 → ∀ y, y ∈ V → ∀ j, j < 3 → kv x.2 k = kv y.2 j → x = y ∧ k = j
theorem SM.lm {F : MapI} {s : BS} {V : List (Nat × T3)} (h : SM F s V) : LM F s.M.tris V where
 vs := h.vs
 al := fun q v hq => by
  rcases h.all q v hq with p | p
  ·have := h.gn _ p
   rw [show ((q : Int)).toNat = q from Int.toNat_natCast q, hq] at this
   exact .inl (Option.some.inj this)
  ·exact .inr p
 lk := fun x hx k hk y hy j hj he => h.si.lk _ (slot_mem hx hk) _ (slot_mem hy hj) he
 un := fun x hx k hk y hy j hj he => by
  have := h.si.uq _ (slot_mem hx hk) _ (slot_mem hy hj) he
  simp only [Prod.mk.injEq] at this
  obtain ⟨e1, e2, _⟩ := this
  refine ⟨Prod.ext e1 ?_, e2⟩
  have q1 := h.vs x hx
  rw [e1, h.vs y hy] at q1
  exact (Option.some.inj q1).symm
def cnt3 (p : Int) (v : T3) : Int := (if v.1 = p then 1 else 0) + (if v.2.1 = p then 1 else 0) + (if v.2.2 = p then 1 else 0)
def cntT (p : Int) (T : List T3) : Int := (T.map (cnt3 p)).sum
structure TG (n : Nat) (T : List T3) : Prop where
 ds : ∀ v, v ∈ T → dist3 v
 nd : (T.flatMap eds).Nodup
 rv : ∀ v, v ∈ T → ∀ k, k < 3 → ∃ w, w ∈ T ∧ ∃ j, j < 3 ∧ kv w j = rev2 (kv v k)
 ok : ∀ v, v ∈ T → ∀ k, k < 3 → tv v k = -1 ∨ (0 ≤ tv v k ∧ tv v k < n)
 st : ∀ v, v ∈ T → ∀ k, k < 3 → ∃ ws : List Int, ws.Nodup ∧ 0 < ws.length ∧ cntT (tv v k) T = ws.length ∧ ∀ u, u ∈ T → ∀ m, m < 3 → tv u m = tv v k → ∃ i, ws[i]? = some (tv u ((m + 1) % 3)) ∧ ws[(i + 1) % ws.length]? = some (tv u ((m + 2) % 3))
 al : ∀ p : Nat, p < n → ∃ v, v ∈ T ∧ has3 p v
 gh : ∃ v, v ∈ T ∧ has3 (-1) v
theorem has3_tv {p : Int} {v : T3} : has3 p v ↔ ∃ k, k < 3 ∧ tv v k = p := by
 constructor
 ·rintro (h | h | h)
  ·exact ⟨0, by decide, h.symm⟩
  ·exact ⟨1, by decide, h.symm⟩
  ·exact ⟨2, by decide, h.symm⟩
 ·rintro ⟨k, hk, h⟩
  match k, hk with
  | 0, _ => exact .inl h.symm
  | 1, _ => exact .inr (.inl h.symm)
  | 2, _ => exact .inr (.inr h.symm)
theorem tv_inj {v : T3} (h : dist3 v) {k j : Nat} (hk : k < 3) (hj : j < 3) (he : tv v k = tv v j) : k = j := by
 obtain ⟨d1, d2, d3⟩ := h
 match k, hk, j, hj with
 | 0, _, 0, _ => rfl
 | 1, _, 1, _ => rfl
 | 2, _, 2, _ => rfl
 | 0, _, 1, _ => exact absurd he d1
 | 1, _, 0, _ => exact absurd he.symm d1
 | 1, _, 2, _ => exact absurd he d2
 | 2, _, 1, _ => exact absurd he.symm d2
 | 2, _, 0, _ => exact absurd he d3
 | 0, _, 2, _ => exact absurd he.symm d3
theorem TG.nodup {n : Nat} {T : List T3} (h : TG n T) : T.Nodup := by
 have := h.nd
 unfold List.Nodup at this ⊢
 rw [List.pairwise_flatMap] at this
 exact this.2.imp (fun {a b} hab q => by subst q; exact hab (kv a 0) (.head _) (kv a 0) (.head _) rfl)
def lvF : Nat → List Tr → List (Nat × T3)
 | _, [] => []
 | k, t :: r => if t.v0 = -2 then lvF (k + 1) r else (k, (t.v0, t.v1, t.v2)) :: lvF (k + 1) r
theorem lvF_cons {k : Nat} {t : Tr} {r : List Tr} : lvF k (t :: r) = if t.v0 = -2 then lvF (k + 1) r else (k, (t.v0, t.v1, t.v2)) :: lvF (k + 1) r := rfl
theorem lvF_mem : ∀ {l : List Tr} {k q : Nat} {v : T3}, (q, v) ∈ lvF k l ↔ k ≤ q ∧ vw l (q - k) = some v ∧ v.1 ≠ -2
 | [], k, q, v => by simp [lvF, vw]
 | t :: l, k, q, v => by
  have ih := lvF_mem (l := l) (k := k + 1) (q := q) (v := v)
  have key : (k + 1 ≤ q ∧ vw l (q - (k + 1)) = some v ∧ v.1 ≠ -2) ↔ (k < q ∧ vw (t :: l) (q - k) = some v ∧ v.1 ≠ -2) := by
   constructor
   ·rintro ⟨h1, h2, h3⟩
    refine ⟨h1, ?_, h3⟩
    rw [show q - k = (q - (k + 1)) + 1 by omega]
    exact h2
   ·rintro ⟨h1, h2, h3⟩
    refine ⟨h1, ?_, h3⟩
    rw [show q - k = (q - (k + 1)) + 1 by omega] at h2
    exact h2
  unfold lvF
  split
  ·rename_i hg
   rw [ih, key]
   constructor
   ·rintro ⟨h1, h2⟩; exact ⟨by omega, h2⟩
   ·rintro ⟨h1, h2, h3⟩
    refine ⟨?_, h2, h3⟩
    rcases Nat.lt_or_ge k q with p | p
    ·exact p
    ·rw [show q - k = 0 by omega] at h2
     simp [vw] at h2
     subst h2
     exact absurd hg h3
  ·rename_i hg
   rw [List.mem_cons, ih, key]
   constructor
   ·rintro (h1 | ⟨h1, h2⟩)
    ·cases h1
     exact ⟨Nat.le_refl _, by rw [Nat.sub_self]; rfl, hg⟩
    ·exact ⟨by omega, h2⟩
   ·rintro ⟨h1, h2, h3⟩
    rcases Nat.lt_or_ge k q with p | p
    ·exact .inr ⟨p, h2, h3⟩
    ·rw [show q - k = 0 by omega] at h2
     simp [vw] at h2
     left
     rw [← h2, show q = k by omega]
theorem lvF_nodup : ∀ {l : List Tr} {k : Nat}, (lvF k l).Nodup
 | [], _ => List.nodup_nil
 | t :: l, k => by
  unfold lvF
  split
  ·exact lvF_nodup
  ·rw [List.nodup_cons]
   exact ⟨fun q => by have := (lvF_mem.1 q).1; omega, lvF_nodup⟩
section
variable {F : MapI} {tris : List Tr} {V : List (Nat × T3)} {n : Nat} {pts : List (Int × Int)} {ats : List Int}
theorem TG.ne2 (hT : TG n (V.map (·.2))) {x : Nat × T3} (hx : x ∈ V) {k : Nat} (hk : k < 3) : tv x.2 k ≠ -2 := by
 have := hT.ok x.2 (List.mem_map.2 ⟨x, hx, rfl⟩) k hk
 omega
theorem LM.perm (h : LM F tris V) (hT : TG n (V.map (·.2))) : (lvF 0 tris).Perm V := by
 rw [List.perm_ext_iff_of_nodup lvF_nodup (nodup_of_map hT.nodup)]
 rintro ⟨q, v⟩
 rw [lvF_mem]
 constructor
 ·rintro ⟨_, h2, h3⟩
  rcases h.al q v h2 with p | p
  ·subst p; exact absurd rfl h3
  ·exact p
 ·intro hx
  exact ⟨Nat.zero_le _, h.vs _ hx, hT.ne2 hx (by decide : 0 < 3)⟩
theorem LM.get (h : LM F tris V) {x : Nat × T3} (hx : x ∈ V) : ∃ t, tris[x.1]? = some t ∧ (t.v0, t.v1, t.v2) = x.2 := vw_iff.1 (h.vs x hx)
theorem LM.of (h : LM F tris V) {q : Nat} {t : Tr} (ht : tris[q]? = some t) (h0 : t.v0 ≠ -2) : (q, (t.v0, t.v1, t.v2)) ∈ V := by
 rcases h.al q _ (vw_iff.2 ⟨t, ht, rfl⟩) with p | p
 ·exact absurd (congrArg Prod.fst p) h0
 ·exact p
theorem nb_at {l : List Tr} {q k : Nat} {x : Int} {t : Tr} (h : nb l q k = some x) (ht : l[q]? = some t) : t.n k = x := by
 unfold nb at h
 rw [ht] at h
 exact Option.some.inj h
theorem fb_at {l : List Tr} {q k : Nat} {x : Bool} {t : Tr} (h : fb l q k = some x) (ht : l[q]? = some t) : t.fl k = x := by
 unfold fb at h
 rw [ht] at h
 exact Option.some.inj h
theorem LM.across (h : LM F tris V) (hT : TG n (V.map (·.2))) {x : Nat × T3} (hx : x ∈ V) {t : Tr} (ht : tris[x.1]? = some t) {k : Nat} (hk : k < 3) : ∃ y, y ∈ V ∧ ∃ j, j < 3 ∧ kv y.2 j = rev2 (kv x.2 k) ∧ t.n k = (y.1 : Int) ∧ t.fl k = flt F (kv x.2 k).1 (kv x.2 k).2 ∧ ∃ o, tris[y.1]? = some o ∧ (o.v0, o.v1, o.v2) = y.2 ∧ o.n j = (x.1 : Int) ∧ o.fl j = t.fl k := by
 obtain ⟨w, hw, j, hj, he⟩ := hT.rv x.2 (List.mem_map.2 ⟨x, hx, rfl⟩) k hk
 obtain ⟨y, hy, rfl⟩ := List.mem_map.1 hw
 obtain ⟨l1, l2⟩ := h.lk x hx k hk y hy j hj he
 obtain ⟨l3, l4⟩ := h.lk y hy j hj x hx k hk (by rw [he])
 obtain ⟨o, ho, hov⟩ := h.get hy
 refine ⟨y, hy, j, hj, he, nb_at l1 ht, fb_at l2 ht, o, ho, hov, nb_at l3 ho, ?_⟩
 rw [fb_at l4 ho, fb_at l2 ht, he, flt_comm]
theorem LM.bes (h : LM F tris V) (hT : TG n (V.map (·.2))) {q : Nat} {t : Tr} (ht : tris[q]? = some t) (h0 : t.v0 ≠ -2) : besB tris t (q : Nat) = true := by
 have hx := h.of ht h0
 have key : ∀ k, k < 3 → besI tris t (q : Nat) k = true := by
  intro k hk
  obtain ⟨y, hy, j, hj, he, hn, hf, o, ho, hov, hon, hof⟩ := h.across hT hx ht hk
  have hl := (List.getElem?_eq_some_iff.1 ho).1
  have e1 : kv (t.v0, t.v1, t.v2) k = (t.v ((k + 1) % 3), t.v ((k + 2) % 3)) := rfl
  have e2 : ∀ m, kv y.2 m = (o.v ((m + 1) % 3), o.v ((m + 2) % 3)) := fun m => by rw [← hov]; rfl
  dsimp only at he hf
  rw [e1] at he hf
  rw [e2 j] at he
  simp only [rev2, Prod.mk.injEq] at he
  unfold besI
  rw [if_neg]
  ·rw [hn, Int.toNat_natCast, ho]
   dsimp only
   have h1 : ∀ f, besF o t (q : Nat) k f j = true := by
    intro f
    unfold besF
    rw [if_pos he, hon, hof]
    simp
   have h2 : ∀ f m, m < 3 → m ≠ j → besF o t (q : Nat) k f m = f := by
    intro f m hm hne
    unfold besF
    rw [if_neg]
    rintro ⟨p1, p2⟩
    have : kv y.2 m = kv y.2 j := by rw [e2, e2, p1, p2, he.1, he.2]
    exact hne (h.un y hy m hm y hy j hj this).2
   show besF o t (q : Nat) k (besF o t (q : Nat) k (besF o t (q : Nat) k false 0) 1) 2 = true
   match j, hj with
   | 0, _ => rw [h2 _ 2 (by decide) (by decide), h2 _ 1 (by decide) (by decide)]; exact h1 _
   | 1, _ => rw [h2 _ 2 (by decide) (by decide)]; exact h1 _
   | 2, _ => exact h1 _
  ·rintro (p | p | ⟨p1, p2⟩)
   ·rw [hn] at p; omega
   ·rw [hn] at p; omega
   ·rw [hf] at p1
    unfold flt at p1
    simp only [Bool.and_eq_true, decide_eq_true_eq] at p1
    omega
 unfold besB
 rw [key 0 (by decide), key 1 (by decide), key 2 (by decide)]
 rfl
theorem liveE_lv : ∀ (l : List Tr) (k : Nat), liveE l = (lvF k l).flatMap (fun x => eds x.2)
 | [], _ => rfl
 | t :: l, k => by
  have ih := liveE_lv l (k + 1)
  unfold liveE at ih ⊢
  rw [List.flatMap_cons, ih, lvF_cons]
  by_cases h0 : t.v0 = -2
  ·rw [if_pos h0, if_pos h0]; rfl
  ·rw [if_neg h0, if_neg h0, List.flatMap_cons]; rfl
theorem flatMap_snd (V : List (Nat × T3)) : V.flatMap (fun x => eds x.2) = (V.map (·.2)).flatMap eds := by rw [List.flatMap_map]
def madeV (pts : List (Int × Int)) (v : T3) : Bool := madeB pts ⟨v.1, v.2.1, v.2.2, -1, -1, -1, false, false, false⟩
theorem LM.snd (h : LM F tris V) (hT : TG n (V.map (·.2))) (hm : ∀ v, v ∈ V.map (·.2) → madeV pts v = true) : sndP pts tris := by
 refine ⟨?_, fun q t ht => ?_⟩
 ·rw [liveE_lv tris 0]
  have := ((h.perm hT).flatMap_right (fun x => eds x.2)).nodup_iff
  rw [this, flatMap_snd]
  exact hT.nd
 ·unfold okT
  rw [Bool.and_eq_true]
  by_cases h0 : t.v0 = -2
  ·rcases h.al q _ (vw_iff.2 ⟨t, ht, rfl⟩) with p | p
   ·refine ⟨?_, by rw [decide_eq_true h0]; rfl⟩
    simp only [Prod.mk.injEq] at p
    obtain ⟨p0, p1, p2⟩ := p
    simp [madeB, cntv, Tr.v, at3, p0, p1, p2]
   ·exact absurd h0 (hT.ne2 p (by decide : 0 < 3))
  ·refine ⟨hm _ (List.mem_map.2 ⟨_, h.of ht h0, rfl⟩), ?_⟩
   rw [h.bes hT ht h0, Bool.or_true]
theorem cntv_3 (t : Tr) (p : Int) : cntv t p 3 = cnt3 p (t.v0, t.v1, t.v2) := by
 have e0 : t.v 0 = t.v0 := rfl
 have e1 : t.v 1 = t.v1 := rfl
 have e2 : t.v 2 = t.v2 := rfl
 simp only [cntv, cnt3, e0, e1, e2, Int.zero_add]
theorem cntA_lv {p : Int} (hp : p ≠ -2) : ∀ (l : List Tr) (k : Nat), (∀ t, t ∈ l → t.v0 = -2 → t.v1 = -2 ∧ t.v2 = -2) → cntA p l = cntT p ((lvF k l).map (·.2))
 | [], _, _ => rfl
 | t :: l, k, hg => by
  have ih := cntA_lv hp l (k + 1) (fun t ht => hg t (.tail _ ht))
  unfold cntA
  rw [ih, cntv_3, lvF_cons]
  split
  ·rename_i h0
   obtain ⟨h1, h2⟩ := hg t (.head _) h0
   unfold cnt3
   rw [h0, h1, h2, if_neg (fun q => hp q.symm)]
   omega
  ·unfold cntT
   rw [List.map_cons, List.map_cons, List.sum_cons]
theorem sum_perm {α : Type} (f : α → Int) {l l' : List α} (h : l.Perm l') : (l.map f).sum = (l'.map f).sum := by
 induction h with
 | nil => rfl
 | cons x _ ih => simp [ih]
 | swap x y l => simp only [List.map_cons, List.sum_cons]; omega
 | trans _ _ ih1 ih2 => exact ih1.trans ih2
theorem LM.gone (h : LM F tris V) (hT : TG n (V.map (·.2))) : ∀ t, t ∈ tris → t.v0 = -2 → t.v1 = -2 ∧ t.v2 = -2 := by
 intro t ht h0
 obtain ⟨q, hq⟩ := List.mem_iff_getElem?.1 ht
 rcases h.al q _ (vw_iff.2 ⟨t, hq, rfl⟩) with p | p
 ·simp only [Prod.mk.injEq] at p; exact p.2
 ·exact absurd h0 (hT.ne2 p (by decide : 0 < 3))
theorem LM.cnt (h : LM F tris V) (hT : TG n (V.map (·.2))) {p : Int} (hp : p ≠ -2) : cntA p tris = cntT p (V.map (·.2)) := by
 rw [cntA_lv hp tris 0 (h.gone hT)]
 exact sum_perm _ ((h.perm hT).map _)
end
end Go.Proofs.Ytbanlhlggkdanaa
namespace Go.Proofs.Ytbanlhlggkdanaa
open Go.RowKit
section
variable {F : MapI} {tris : List Tr} {V : List (Nat × T3)} {n : Nat} {pts : List (Int × Int)} {ats : List Int}
theorem LM.plc (h : LM F tris V) (hT : TG n (V.map (·.2))) {x : Nat × T3} (hx : x ∈ V) {t : Tr} (ht : tris[x.1]? = some t) {k : Nat} (hk : k < 3) : plc t (tv x.2 k) = (k : Nat) := by
 obtain ⟨u, hu, huv⟩ := h.get hx
 rw [ht] at hu
 cases hu
 have e : ∀ m, t.v m = tv x.2 m := fun m => by rw [← huv]; rfl
 obtain ⟨p, hp, hp3, hpv⟩ := plc_has (t := t) (v := tv x.2 k) hk (e k)
 rw [hp, tv_inj (hT.ds x.2 (List.mem_map.2 ⟨x, hx, rfl⟩)) hp3 hk ((e p).symm.trans hpv)]
theorem LM.next (h : LM F tris V) (hT : TG n (V.map (·.2))) {x : Nat × T3} (hx : x ∈ V) {k : Nat} (hk : k < 3) : ∃ y, y ∈ V ∧ nxt tris (tv x.2 k) x.1 = (y.1 : Int) ∧ ∃ m, m < 3 ∧ tv y.2 m = tv x.2 k ∧ tv y.2 ((m + 1) % 3) = tv x.2 ((k + 2) % 3) := by
 obtain ⟨t, ht, _⟩ := h.get hx
 obtain ⟨y, hy, j, hj, he, hn, _⟩ := h.across hT hx ht (Nat.mod_lt (k + 1) (by decide : 0 < 3))
 refine ⟨y, hy, ?_, (j + 1) % 3, Nat.mod_lt _ (by decide), ?_, ?_⟩
 ·unfold nxt
  rw [Int.toNat_natCast, ht]
  dsimp only
  rw [h.plc hT hx ht hk, Int.toNat_natCast]
  exact hn
 ·have := congrArg Prod.fst he
  rw [kv_tv, kv_tv] at this
  dsimp only [rev2] at this
  rw [this, show ((k + 1) % 3 + 2) % 3 = k by omega]
 ·have := congrArg Prod.snd he
  rw [kv_tv, kv_tv] at this
  dsimp only [rev2] at this
  rw [show ((j + 1) % 3 + 1) % 3 = (j + 2) % 3 by omega, this, show ((k + 1) % 3 + 1) % 3 = (k + 2) % 3 by omega]
theorem at_inj {ws : List Int} (hn : ws.Nodup) {i j : Nat} {a : Int} (h1 : ws[i]? = some a) (h2 : ws[j]? = some a) : i = j :=
 (List.getElem?_inj (List.getElem?_eq_some_iff.1 h1).1 hn).1 (h1.trans h2.symm)
theorem cntT_le {p : Int} : ∀ {l : List T3}, (∀ v, v ∈ l → dist3 v) → cntT p l ≤ l.length
 | [], _ => Int.le_refl _
 | v :: l, h => by
  have ih := cntT_le (p := p) (l := l) (fun u hu => h u (.tail _ hu))
  obtain ⟨d1, d2, d3⟩ := h v (.head _)
  unfold cntT at ih ⊢
  rw [List.map_cons, List.sum_cons, List.length_cons]
  have : cnt3 p v ≤ 1 := by
   unfold cnt3
   (repeat' split) <;> omega
  omega
theorem lvF_len : ∀ (l : List Tr) (k : Nat), (lvF k l).length ≤ l.length
 | [], _ => Nat.le_refl _
 | t :: l, k => by
  have := lvF_len l (k + 1)
  rw [lvF_cons]
  split
  ·rw [List.length_cons]; omega
  ·rw [List.length_cons, List.length_cons]; omega
theorem LM.len (h : LM F tris V) (hT : TG n (V.map (·.2))) : V.length ≤ tris.length := by
 rw [← (h.perm hT).length_eq]
 exact lvF_len ..
theorem LM.orbit (h : LM F tris V) (hT : TG n (V.map (·.2))) {x : Nat × T3} (hx : x ∈ V) {k : Nat} (hk : k < 3) : ∃ ws : List Int, ws.Nodup ∧ 0 < ws.length ∧ (ws.length : Int) = cntA (tv x.2 k) tris ∧ ws.length ≤ tris.length ∧ ∃ i0, i0 < ws.length ∧ ws[i0]? = some (tv x.2 ((k + 1) % 3)) ∧
  (∀ j, ∃ y, y ∈ V ∧ itr tris (tv x.2 k) j x.1 = (y.1 : Int) ∧ ∃ m, m < 3 ∧ tv y.2 m = tv x.2 k ∧ ws[(i0 + j) % ws.length]? = some (tv y.2 ((m + 1) % 3))) ∧
  ∀ u, u ∈ V → ∀ m, m < 3 → tv u.2 m = tv x.2 k → ∃ i, i < ws.length ∧ ws[i]? = some (tv u.2 ((m + 1) % 3)) := by
 obtain ⟨ws, hn, h0, hc, hw⟩ := hT.st x.2 (List.mem_map.2 ⟨x, hx, rfl⟩) k hk
 have hcA : (ws.length : Int) = cntA (tv x.2 k) tris := by rw [h.cnt hT (hT.ne2 hx hk), hc]
 refine ⟨ws, hn, h0, hcA, ?_, ?_⟩
 ·have q1 := cntT_le (p := tv x.2 k) hT.ds
  have q2 := h.len hT
  rw [List.length_map] at q1
  omega
 obtain ⟨i0, hi0, hi1⟩ := hw x.2 (List.mem_map.2 ⟨x, hx, rfl⟩) k hk rfl
 have hil := (List.getElem?_eq_some_iff.1 hi0).1
 refine ⟨i0, hil, hi0, fun j => ?_, fun u hu m hm he => ?_⟩
 ·induction j with
  | zero => exact ⟨x, hx, rfl, k, hk, rfl, by rw [Nat.add_zero, Nat.mod_eq_of_lt hil]; exact hi0⟩
  | succ j ih =>
   obtain ⟨y, hy, hyi, m, hm, hym, hyw⟩ := ih
   obtain ⟨z, hz, hzn, m', hm', hzm, hzw⟩ := h.next hT hy hm
   refine ⟨z, hz, ?_, m', hm', hzm.trans hym, ?_⟩
   ·show nxt tris (tv x.2 k) (itr tris (tv x.2 k) j x.1) = _
    rw [hyi, ← hym]; exact hzn
   ·obtain ⟨i, hi2, hi3⟩ := hw y.2 (List.mem_map.2 ⟨y, hy, rfl⟩) m hm hym
    have e := at_inj hn hi2 hyw
    subst e
    rw [hzw, ← hi3]
    congr 1
    rw [Nat.mod_add_mod]
    rfl
 ·obtain ⟨i, hi2, _⟩ := hw u.2 (List.mem_map.2 ⟨u, hu, rfl⟩) m hm he
  exact ⟨i, (List.getElem?_eq_some_iff.1 hi2).1, hi2⟩
theorem LM.same (h : LM F tris V) {x y : Nat × T3} (hx : x ∈ V) (hy : y ∈ V) {k m : Nat} (hk : k < 3) (hm : m < 3) (e1 : tv x.2 k = tv y.2 m) (e2 : tv x.2 ((k + 1) % 3) = tv y.2 ((m + 1) % 3)) : x = y ∧ k = m := by
 have e : kv x.2 ((k + 2) % 3) = kv y.2 ((m + 2) % 3) := by
  rw [kv_tv, kv_tv, show ((k + 2) % 3 + 1) % 3 = k by omega, show ((k + 2) % 3 + 2) % 3 = (k + 1) % 3 by omega, show ((m + 2) % 3 + 1) % 3 = m by omega, show ((m + 2) % 3 + 2) % 3 = (m + 1) % 3 by omega, e1, e2]
 obtain ⟨q1, q2⟩ := h.un x hx _ (Nat.mod_lt _ (by decide)) y hy _ (Nat.mod_lt _ (by decide)) e
 exact ⟨q1, by omega⟩
theorem LM.num (h : LM F tris V) {x y : Nat × T3} (hx : x ∈ V) (hy : y ∈ V) (e : x.1 = y.1) : x = y := by
 have q := h.vs x hx
 rw [e, h.vs y hy] at q
 exact Prod.ext e (Option.some.inj q).symm
theorem mod_back {i j N : Nat} (hi : i < N) (h0 : 0 < j) (hj : j < N) : (i + j) % N ≠ i := by
 rcases Nat.lt_or_ge (i + j) N with p | p
 ·rw [Nat.mod_eq_of_lt p]; omega
 ·rw [Nat.mod_eq_sub_mod p, Nat.mod_eq_of_lt (by omega)]; omega
theorem LM.orb_end (h : LM F tris V) (hT : TG n (V.map (·.2))) {x : Nat × T3} (hx : x ∈ V) {k : Nat} (hk : k < 3) : ∃ N : Nat, 1 ≤ N ∧ (N : Int) = cntA (tv x.2 k) tris ∧ N ≤ tris.length ∧ itr tris (tv x.2 k) N x.1 = x.1 ∧ (∀ j, 0 < j → j < N → itr tris (tv x.2 k) j x.1 ≠ x.1) := by
 obtain ⟨ws, hn, h0, hcA, hl, i0, hil, hi0, ho, _⟩ := h.orbit hT hx hk
 refine ⟨ws.length, h0, hcA, hl, ?_, fun j j0 j1 q => ?_⟩
 ·obtain ⟨y, hy, hyi, m, hm, hym, hyw⟩ := ho ws.length
  rw [Nat.add_mod_right, Nat.mod_eq_of_lt hil, hi0] at hyw
  rw [hyi, (h.same hx hy hk hm hym.symm (Option.some.inj hyw)).1]
 ·obtain ⟨y, hy, hyi, m, hm, hym, hyw⟩ := ho j
  rw [hyi] at q
  have e := h.num hx hy (by omega)
  subst e
  have e2 := tv_inj (hT.ds x.2 (List.mem_map.2 ⟨x, hx, rfl⟩)) hm hk hym
  subst e2
  exact mod_back hil j0 j1 (at_inj hn hyw hi0)
theorem LM.st (h : LM F tris V) (hT : TG n (V.map (·.2))) (hs : sndP pts tris) (hal : ats.length = n) (hat : ∀ p : Nat, p < n → ∃ y, y ∈ V ∧ ats[p]? = some (y.1 : Int) ∧ has3 p y.2) : StOk tris ats := by
 have hpos : ∀ {x : Nat × T3}, x ∈ V → ∀ {k : Nat}, k < 3 → 0 < cntA (tv x.2 k) tris := by
  intro x hx k hk
  obtain ⟨ws, _, h0, hcA, _⟩ := h.orbit hT hx hk
  omega
 refine ⟨snd_cl hs, fun v q k t m hv hq hk he hr => ?_, fun v a ha => ?_, ?_⟩
 ·have h0 : t.v0 ≠ -2 := by
   intro q0
   have := h.gone hT t (List.mem_of_getElem? hq) q0
   match k, hk with
   | 0, _ => exact hv (he.symm.trans q0)
   | 1, _ => exact hv (he.symm.trans this.1)
   | 2, _ => exact hv (he.symm.trans this.2)
  have hx := h.of hq h0
  have e : tv (t.v0, t.v1, t.v2) k = v := he
  obtain ⟨N, n1, n2, n3, n4, n5⟩ := h.orb_end hT hx hk
  dsimp only at n2 n4 n5
  rw [e] at n2 n4 n5
  rw [rnd_is hr n1 n3 n4 n5, n2]
 ·have hvl : v < n := by
   have := (List.getElem?_eq_some_iff.1 ha).1
   omega
  obtain ⟨y, hy, hya, hyh⟩ := hat v hvl
  rw [hya] at ha
  obtain rfl := Option.some.inj ha
  obtain ⟨k, hk, hkv⟩ := has3_tv.1 hyh
  have hp := hpos hy hk
  rw [hkv] at hp
  obtain ⟨t, ht, _⟩ := h.get hy
  refine ⟨by omega, by have := (List.getElem?_eq_some_iff.1 ht).1; omega, fun _ => ⟨t, by rw [Int.toNat_natCast]; exact ht, ?_⟩⟩
  have := h.plc hT hy ht hk
  rw [hkv] at this
  rw [this]
  exact Int.natCast_nonneg k
 ·obtain ⟨v, hv, hg⟩ := hT.gh
  obtain ⟨x, hx, rfl⟩ := List.mem_map.1 hv
  obtain ⟨k, hk, hkv⟩ := has3_tv.1 hg
  have hp := hpos hx hk
  rw [hkv] at hp
  exact hp
end
end Go.Proofs.Ytbanlhlggkdanaa
namespace Go.Proofs.Ytbanlhlggkdanaa
open Go.RowKit
theorem TG.perm {n : Nat} {T T' : List T3} (h : TG n T) (hp : T.Perm T') : TG n T' where
 ds := fun v hv => h.ds v (hp.mem_iff.2 hv)
 nd := (hp.flatMap_right eds).nodup_iff.1 h.nd
 rv := fun v hv k hk => by
  obtain ⟨w, hw, q⟩ := h.rv v (hp.mem_iff.2 hv) k hk
  exact ⟨w, hp.mem_iff.1 hw, q⟩
 ok := fun v hv => h.ok v (hp.mem_iff.2 hv)
 st := fun v hv k hk => by
  obtain ⟨ws, h1, h2, h3, h4⟩ := h.st v (hp.mem_iff.2 hv) k hk
  refine ⟨ws, h1, h2, ?_, fun u hu => h4 u (hp.mem_iff.2 hu)⟩
  rw [← h3]
  exact (sum_perm _ hp).symm
 al := fun p q => by
  obtain ⟨v, hv, e⟩ := h.al p q
  exact ⟨v, hp.mem_iff.1 hv, e⟩
 gh := by
  obtain ⟨v, hv, e⟩ := h.gh
  exact ⟨v, hp.mem_iff.1 hv, e⟩
def cyc (T : List T3) (p : Int) : List (Int × Int) := T.flatMap fun v => (if v.1 = p then [(v.2.1, v.2.2)] else []) ++ ((if v.2.1 = p then [(v.2.2, v.1)] else []) ++ (if v.2.2 = p then [(v.1, v.2.1)] else []))
def starF : Nat → List (Int × Int) → Int → List Int
 | 0, _, _ => []
 | n + 1, L, w => w :: starF n L (((L.find? (fun e => decide (e.1 = w))).map (·.2)).getD 0)
def starB (T : List T3) (p : Int) : Bool :=
 let L := cyc T p
 let ws := starF L.length L ((L.head?.map (·.1)).getD 0)
 decide (ws.Nodup) && (decide (0 < ws.length) && (decide (cntT p T = ws.length) && L.all fun e => (List.range ws.length).any fun i => decide (ws[i]? = some e.1) && decide (ws[(i + 1) % ws.length]? = some e.2)))
def tgB (n : Nat) (T : List T3) : Bool :=
 T.all (fun v => decide (dist3 v)) && (decide ((T.flatMap eds).Nodup) && (T.all (fun v => [0, 1, 2].all fun k => T.any fun w => [0, 1, 2].any fun j => decide (kv w j = rev2 (kv v k))) &&
 (T.all (fun v => [0, 1, 2].all fun k => decide (tv v k = -1 ∨ (0 ≤ tv v k ∧ tv v k < n))) && ((List.range n).all (fun p => T.any fun v => decide (has3 p v)) && (T.any (fun v => decide (has3 (-1) v)) && ((-1 : Int) :: (List.range n).map fun p => ((p : Nat) : Int)).all (starB T))))))
theorem in3' {k : Nat} (h : k < 3) : k ∈ [0, 1, 2] := by
 match k, h with
 | 0, _ => exact .head _
 | 1, _ => exact .tail _ (.head _)
 | 2, _ => exact .tail _ (.tail _ (.head _))
theorem lt3 {k : Nat} (h : k ∈ [0, 1, 2]) : k < 3 := by
 simp at h; omega
theorem cyc_mem {T : List T3} {u : T3} {m : Nat} (hu : u ∈ T) (hm : m < 3) : (tv u ((m + 1) % 3), tv u ((m + 2) % 3)) ∈ cyc T (tv u m) := by
 refine List.mem_flatMap.2 ⟨u, hu, ?_⟩
 match m, hm with
 | 0, _ => rw [if_pos (show u.1 = tv u 0 from rfl)]; exact .head _
 | 1, _ => refine List.mem_append_right _ (List.mem_append_left _ ?_); rw [if_pos (show u.2.1 = tv u 1 from rfl)]; exact .head _
 | 2, _ => refine List.mem_append_right _ (List.mem_append_right _ ?_); rw [if_pos (show u.2.2 = tv u 2 from rfl)]; exact .head _
theorem tgB_ok {n : Nat} {T : List T3} (h : tgB n T = true) : TG n T := by
 unfold tgB at h
 simp only [Bool.and_eq_true, List.all_eq_true, List.any_eq_true, decide_eq_true_eq] at h
 obtain ⟨h1, h2, h3, h4, h5, h6, h7⟩ := h
 refine ⟨h1, h2, fun v hv k hk => ?_, fun v hv k hk => h4 v hv k (in3' hk), fun v hv k hk => ?_, fun p hp => h5 p (List.mem_range.2 hp), h6⟩
 ·obtain ⟨w, hw, j, hj, e⟩ := h3 v hv k (in3' hk)
  exact ⟨w, hw, j, lt3 hj, e⟩
 ·have hs : starB T (tv v k) = true := by
   apply h7
   rcases h4 v hv k (in3' hk) with q | ⟨q1, q2⟩
   ·rw [q]; exact .head _
   ·refine .tail _ (List.mem_map.2 ⟨(tv v k).toNat, List.mem_range.2 (by omega), by omega⟩)
  unfold starB at hs
  simp only [Bool.and_eq_true, List.all_eq_true, List.any_eq_true, decide_eq_true_eq] at hs
  obtain ⟨s1, s2, s3, s4⟩ := hs
  refine ⟨_, s1, s2, s3, fun u hu m hm he => ?_⟩
  have hc := cyc_mem hu hm
  rw [he] at hc
  obtain ⟨i, _, i1, i2⟩ := s4 _ hc
  exact ⟨i, i1, i2⟩
def openE (T : List T3) : List (Int × Int) := let E := T.flatMap eds; E.filter fun e => !(E.any fun e' => decide (e' = rev2 e))
def ghs (E : List (Int × Int)) : List T3 := E.map fun e => (e.2, e.1, -1)
def gAll (W H : Nat) (f : Nat → Bool) : List T3 := gTris W H f ++ ghs (openE (gTris W H f))
def gB (W H : Nat) (f : Nat → Bool) : Bool := tgB (gPts W H).length (gAll W H f) && (gAll W H f).all (madeV (gPts W H))
theorem gB_all : ∀ b0 b1 b2 b3 : Bool, gB 1 1 (bit4 b0 b1 b2 b3) = true ∧ gB 1 2 (bit4 b0 b1 b2 b3) = true ∧ gB 2 1 (bit4 b0 b1 b2 b3) = true ∧ gB 2 2 (bit4 b0 b1 b2 b3) = true := by decide +kernel
end Go.Proofs.Ytbanlhlggkdanaa
namespace Go.Proofs.Ytbanlhlggkdanaa
open Go.RowKit
section
variable {pts : List (Int × Int)} {a b c : Nat}
theorem new_ats (pts : List (Int × Int)) (a b c : Int) : (newM pts a b c).ats = setAt (setAt (setAt (setAt (setAt (setAt (setAt (setAt (setAt (setAt (setAt (setAt (List.replicate pts.length (-1)) a 0) b 0) c 0) c 1) b 1) (-1) 1) a 2) c 2) (-1) 2) b 3) a 3) (-1) 3 := rfl
theorem new_len (pts : List (Int × Int)) (a b c : Int) : (newM pts a b c).ats.length = pts.length := by
 rw [new_ats]
 simp only [setAt_len, List.length_replicate]
end
section
variable {pts : List (Int × Int)} {a b c : Nat}
end
end Go.Proofs.Ytbanlhlggkdanaa
namespace Go.Proofs.Ytbanlhlggkdanaa
open Go.RowKit
theorem gB_true {W H : Nat} {f : Nat → Bool} (hW : W = 1 ∨ W = 2) (hH : H = 1 ∨ H = 2) : gB W H f = true := by
 have := gB_all (f 0) (f 1) (f 2) (f 3)
 unfold gB gAll at this ⊢
 rw [gTris_nf hW hH]
 rcases hW with rfl | rfl <;> rcases hH with rfl | rfl
 ·exact this.1
 ·exact this.2.1
 ·exact this.2.2.1
 ·exact this.2.2.2
theorem mem_openE {T : List T3} {e : Int × Int} : e ∈ openE T ↔ e ∈ T.flatMap eds ∧ ¬ rev2 e ∈ T.flatMap eds := by
 unfold openE
 dsimp only
 rw [List.mem_filter]
 constructor
 ·rintro ⟨h1, h2⟩
  refine ⟨h1, fun q => ?_⟩
  rw [Bool.not_eq_true', List.any_eq_false] at h2
  exact h2 _ q (by simp)
 ·rintro ⟨h1, h2⟩
  refine ⟨h1, ?_⟩
  rw [Bool.not_eq_true', List.any_eq_false]
  intro e' he' q
  rw [of_decide_eq_true q] at he'
  exact h2 he'
theorem slots_map (V : List (Nat × T3)) : (V.flatMap slots).map (·.2.2) = (V.map (·.2)).flatMap eds := by
 rw [List.map_flatMap, List.flatMap_map]
 rfl
theorem SM.keys {F : MapI} {s : BS} {V : List (Nat × T3)} (h : SM F s V) (hn : ((V.map (·.2)).flatMap eds).Nodup) : (s.L.map (·.1)).Perm (openE (V.map (·.2))) := by
 rw [List.perm_ext_iff_of_nodup h.si.kn (hn.sublist (by unfold openE; exact List.filter_sublist))]
 intro e
 rw [mem_openE, ← slots_map]
 constructor
 ·intro he
  obtain ⟨y, hy, rfl⟩ := List.mem_map.1 he
  obtain ⟨x, hx1, hx2, _, hx4⟩ := h.si.ex _ _ (mget_of_mem h.si.kn hy)
  refine ⟨List.mem_map.2 ⟨x, hx1, hx2⟩, fun q => ?_⟩
  obtain ⟨z, hz, hz2⟩ := List.mem_map.1 q
  exact hx4 z hz hz2
 ·rintro ⟨h1, h2⟩
  obtain ⟨x, hx, rfl⟩ := List.mem_map.1 h1
  exact mget_some_mem (h.si.op x hx (fun y hy q => h2 (List.mem_map.2 ⟨y, hy, q⟩)))
theorem stepT_same (F : MapI) (s : BS) (v : T3) : (stepT F s v).M.ats.length = s.M.ats.length ∧ (stepT F s v).M.pts = s.M.pts ∧ (stepT F s v).M.tris.length ≤ s.M.tris.length + 1 := by
 obtain ⟨_, _, j3, j4, j5⟩ := joinB_same F s.M.nextN.toNat v.1 v.2.1 v.2.2 ⟨s.M.make v.1 v.2.1 v.2.2, s.L, s.c⟩
 refine ⟨?_, j5, ?_⟩
 ·rw [show (stepT F s v).M.ats = (s.M.make v.1 v.2.1 v.2.2).ats from j4]
  unfold MD.make
  simp only [setAt_len]
 ·rw [show (stepT F s v).M.tris.length = (s.M.make v.1 v.2.1 v.2.2).tris.length from j3]
  unfold MD.make
  dsimp only
  split <;> simp
theorem foldT_same (F : MapI) : ∀ (l : List T3) (s : BS), (l.foldl (stepT F) s).M.ats.length = s.M.ats.length ∧ (l.foldl (stepT F) s).M.pts = s.M.pts ∧ (l.foldl (stepT F) s).M.tris.length ≤ s.M.tris.length + l.length
 | [], s => ⟨rfl, rfl, Nat.le_refl _⟩
 | v :: l, s => by
  obtain ⟨a1, a2, a3⟩ := stepT_same F s v
  obtain ⟨b1, b2, b3⟩ := foldT_same F l (stepT F s v)
  rw [List.foldl_cons, List.length_cons]
  exact ⟨b1.trans a1, b2.trans a2, by omega⟩
structure GM (F : MapI) (W H : Nat) (f : Nat → Bool) (M : MD) (V : List (Nat × T3)) : Prop where
 lm : LM F M.tris V
 tg : TG (gPts W H).length (V.map (·.2))
 mw : ∀ v, v ∈ V.map (·.2) → madeV (gPts W H) v = true
 pts : M.pts = gPts W H
 ats : M.ats.length = (gPts W H).length
 at_ : ∀ p : Nat, p < (gPts W H).length → ∃ y, y ∈ V ∧ M.ats[p]? = some (y.1 : Int) ∧ has3 p y.2
 len : M.tris.length ≤ 100
 pm : (V.map (·.2)).Perm (gAll W H f)
 fr : ∀ k, k ∈ M.free → 0 ≤ k ∧ k < M.tris.length
 fn : M.free.Nodup
 gn : ∀ k, k ∈ M.free → vw M.tris k.toNat = some (-2, -2, -2)
 al : ∀ q v, vw M.tris q = some v → (q : Int) ∈ M.free ∨ (q, v) ∈ V
 nf : ∀ x, x ∈ V → ¬ (x.1 : Int) ∈ M.free
theorem openE_len (T : List T3) : (openE T).length ≤ 3 * T.length := by
 have h1 : (openE T).length ≤ (T.flatMap eds).length := by unfold openE; exact List.length_filter_le _ _
 have h2 : (T.flatMap eds).length = 3 * T.length := by
  induction T with
  | nil => rfl
  | cons v T ih => rw [List.flatMap_cons, List.length_append, ih (by unfold openE; exact List.length_filter_le _ _), List.length_cons]; show 3 + 3 * T.length = _; omega
 omega
theorem grid_M {F : MapI} {W H : Nat} {f : Nat → Bool} {border : MapO} (hW : W = 1 ∨ W = 2) (hH : H = 1 ∨ H = 2) (hp : border.Perm (gridR F W H f).L) : ∃ V, GM F W H f (buildG F (gridR F W H f) border).M V := by
 have hB := gB_true (f := f) hW hH
 unfold gB at hB
 rw [Bool.and_eq_true, List.all_eq_true] at hB
 obtain ⟨hT0, hM0⟩ := hB
 have hT := tgB_ok hT0
 have hnd := hT.nd
 have hds := hT.ds
 unfold gAll at hnd hds
 rw [List.flatMap_append] at hnd
 have hn1 := (List.nodup_append.1 hnd).1
 have hgl : (gTris W H f).length ≤ 9 := by
  obtain ⟨a, b, c, rest, hr, hl, _⟩ := g_shape hW hH f
  rw [hr, List.length_cons]
  omega
 obtain ⟨V1, hS1, hV1⟩ := (bs0_SM F (gPts W H) (gHead W H f).1 (gHead W H f).2.1 (gHead W H f).2.2).many (gTris W H f) (fun v hv => hds v (List.mem_append_left _ hv)) (by simpa using hn1)
 rw [List.nil_append] at hS1
 have hS1 : SM F (gridR F W H f) V1 := hS1
 have hk := hS1.keys (by rw [hV1]; exact hn1)
 rw [hV1] at hk
 have hbk : (border.map (·.1)).Perm (openE (gTris W H f)) := (hp.map _).trans hk
 have hg : border.map (fun e => ((e.1.2, e.1.1, -1) : T3)) = ghs (border.map (·.1)) := by
  unfold ghs
  rw [List.map_map]
  rfl
 have hgp : (border.map (fun e => ((e.1.2, e.1.1, -1) : T3))).Perm (ghs (openE (gTris W H f))) := by
  rw [hg]; exact hbk.map _
 have hfull : (gTris W H f ++ border.map (fun e => ((e.1.2, e.1.1, -1) : T3))).Perm (gAll W H f) := hgp.append_left _
 have hn2 := (hfull.flatMap_right eds).nodup_iff.2 hT.nd
 rw [List.flatMap_append] at hn2
 have hbuild : buildG F (gridR F W H f) border = (border.map (fun e => ((e.1.2, e.1.1, -1) : T3))).foldl (stepT F) (gridR F W H f) := by
  unfold buildG
  rw [List.foldl_map]
  rfl
 obtain ⟨V2, hS2, hV2⟩ := hS1.many (border.map (fun e => ((e.1.2, e.1.1, -1) : T3))) (fun v hv => hT.ds v (hfull.mem_iff.1 (List.mem_append_right _ hv))) (by rw [flatMap_snd, hV1]; exact hn2)
 rw [← hbuild] at hS2
 have hVm : ((V1 ++ V2).map (·.2)).Perm (gAll W H f) := by rw [List.map_append, hV1, hV2]; exact hfull
 have hTG := hT.perm hVm.symm
 obtain ⟨a1, a2, a3⟩ := foldT_same F (gTris W H f) (bs0 (gPts W H) (gHead W H f).1 (gHead W H f).2.1 (gHead W H f).2.2)
 obtain ⟨b1, b2, b3⟩ := foldT_same F (border.map (fun e => ((e.1.2, e.1.1, -1) : T3))) (gridR F W H f)
 have hats : (buildG F (gridR F W H f) border).M.ats.length = (gPts W H).length := by
  rw [hbuild, b1]
  exact a1.trans (new_len (gPts W H) (gHead W H f).1 (gHead W H f).2.1 (gHead W H f).2.2)
 refine ⟨V1 ++ V2, hS2.lm, hTG, fun v hv => hM0 v (hVm.mem_iff.1 hv), ?_, hats, fun p hpn => ?_, ?_, hVm, hS2.fr, hS2.fn, hS2.gn, hS2.all, hS2.nf⟩
 ·rw [hbuild, b2]
  exact a2
 ·obtain ⟨v, hv, h3⟩ := hTG.al p hpn
  obtain ⟨x, hx, rfl⟩ := List.mem_map.1 hv
  obtain ⟨y, y1, y2, y3⟩ := hS2.at_ x hx p h3 (Int.natCast_nonneg p) (by rw [hats]; omega)
  exact ⟨y, y1, by simpa using y2, y3⟩
 ·rw [hbuild]
  have c1 : (bs0 (gPts W H) (gHead W H f).1 (gHead W H f).2.1 (gHead W H f).2.2).M.tris.length = 4 := by
   show (mesh0 _ _ _ _).tris.length = 4
   simp [mesh0, MD.drop, newM, newM0, MD.make, MD.link]
  have c2 : (border.map (fun e => ((e.1.2, e.1.1, -1) : T3))).length ≤ 3 * (gTris W H f).length := by
   rw [hgp.length_eq]
   unfold ghs
   rw [List.length_map]
   exact openE_len _
  have c3 : (gridR F W H f).M.tris.length ≤ 4 + (gTris W H f).length := by rw [← c1]; exact a3
  omega
theorem GM.snd {F : MapI} {W H : Nat} {f : Nat → Bool} {M : MD} {V : List (Nat × T3)} (h : GM F W H f M V) : sndP M.pts M.tris := by
 rw [h.pts]
 exact h.lm.snd h.tg h.mw
theorem GM.st {F : MapI} {W H : Nat} {f : Nat → Bool} {M : MD} {V : List (Nat × T3)} (h : GM F W H f M V) : StOk M.tris M.ats := h.lm.st h.tg h.snd h.ats h.at_
theorem GM.vok {F : MapI} {W H : Nat} {f : Nat → Bool} {M : MD} {V : List (Nat × T3)} (h : GM F W H f M V) : ∀ t, t ∈ M.tris → vOk M.pts.length t := by
 intro t ht k hk
 obtain ⟨q, hq⟩ := List.mem_iff_getElem?.1 ht
 rw [h.pts]
 rcases h.lm.al q _ (vw_iff.2 ⟨t, hq, rfl⟩) with p | p
 ·right; left
  simp only [Prod.mk.injEq] at p
  match k, hk with
  | 0, _ => exact p.1
  | 1, _ => exact p.2.1
  | 2, _ => exact p.2.2
 ·rcases h.tg.ok _ (List.mem_map.2 ⟨_, p, rfl⟩) k hk with r | r
  ·exact .inl r
  ·exact .inr (.inr r)
end Go.Proofs.Ytbanlhlggkdanaa
namespace Go.Proofs.Ytbanlhlggkdanaa
open Go.RowKit
theorem realsF_lv : ∀ (l : List Tr) (k : Nat), (realsF k l).map (fun x => ((x.1, (x.2.v0, x.2.v1, x.2.v2)) : Nat × T3)) = (lvF k l).filter (fun x => decide (rv x.2))
 | [], _ => rfl
 | t :: l, k => by
  have ih := realsF_lv l (k + 1)
  rw [lvF_cons]
  unfold realsF
  by_cases hr : t.real
  ·have h0 : t.v0 ≠ -2 := by have := hr.1; omega
   rw [if_pos hr, if_neg h0, List.map_cons, List.filter_cons, if_pos (by simpa using (show rv (t.v0, t.v1, t.v2) from hr)), ih]
  ·rw [if_neg hr, ih]
   split
   ·rfl
   ·rw [List.filter_cons, if_neg (by simpa using (show ¬ rv (t.v0, t.v1, t.v2) from hr))]
def hStep (s : MI × Nat × Int) (e : Int × Int) : MI × Nat × Int := (mput e.1 e.2 s.1 s.2.1, mclk e.1 s.1 s.2.1, min s.2.2 e.1)
def hEt (tris : List Tr) (t : Tr) : List (Int × Int) := ([0, 1, 2].filter fun k => !decide (isReal tris (t.n k))).map (edT t)
theorem hullT_edges (tris : List Tr) (s : MI × Nat × Int) (x : Nat × Tr) : hullT tris s x = (hEt tris x.2).foldl hStep s := by
 unfold hullT hEt
 rw [List.foldl_map, List.foldl_filter]
 congr 1
 funext a k
 unfold hullE hStep edT
 by_cases h : isReal tris (x.2.n k)
 ·rw [if_pos h, if_neg (by simpa using h)]
 ·rw [if_neg h, if_pos (by simpa using h)]
theorem foldl_flat {α β γ : Type} (g : γ → β → γ) (f : α → List β) : ∀ (l : List α) (s : γ), l.foldl (fun s x => (f x).foldl g s) s = (l.flatMap f).foldl g s
 | [], _ => rfl
 | x :: l, s => by rw [List.foldl_cons, List.flatMap_cons, List.foldl_append, foldl_flat g f l]
theorem hullM_edges (tris : List Tr) (n0 : Int) : hullM tris n0 = ((reals tris).flatMap (fun x => hEt tris x.2)).foldl hStep ([], 0, n0) := by
 unfold hullM
 rw [← foldl_flat]
 congr 1
 funext s x
 exact hullT_edges tris s x
theorem mput_new {k v : Int} {l : MI} {c : Nat} (h : ¬ k ∈ l.map (·.1)) : mput k v l c = l ++ [(k, v, c)] := by
 have := mget_none h
 unfold mget at this
 unfold mput
 cases hf : mfind k l 0 with
 | none => rfl
 | some p => rw [hf] at this; cases this
theorem hFold : ∀ (E : List (Int × Int)) (s : MI × Nat × Int), (∀ e, e ∈ E → ¬ e.1 ∈ s.1.map (·.1)) → (E.map (·.1)).Nodup → (E.foldl hStep s).1.map (fun e => (e.1, e.2.1)) = s.1.map (fun e => (e.1, e.2.1)) ++ E ∧ (E.foldl hStep s).2.2 = (E.map (·.1)).foldl min s.2.2
 | [], s, _, _ => ⟨by simp, rfl⟩
 | e :: E, s, h, hn => by
  rw [List.map_cons, List.nodup_cons] at hn
  have hp : (hStep s e).1 = s.1 ++ [(e.1, e.2, s.2.1)] := mput_new (h e (.head _))
  obtain ⟨h1, h2⟩ := hFold E (hStep s e) (fun e' he' q => by
   rw [hp, List.map_append] at q
   rcases List.mem_append.1 q with q | q
   ·exact h e' (.tail _ he') q
   ·simp at q
    exact hn.1 (List.mem_map.2 ⟨e', he', q⟩)) hn.2
  rw [List.foldl_cons]
  refine ⟨?_, h2⟩
  rw [h1, hp, List.map_append, List.append_assoc]
  rfl
def nxE (E : List (Int × Int)) (a : Int) : Int := ((E.find? (fun e => decide (e.1 = a))).map (·.2)).getD 0
def itE (E : List (Int × Int)) : Nat → Int → Int
 | 0, v => v
 | k + 1, v => nxE E (itE E k v)
def minE (E : List (Int × Int)) (n0 : Int) : Int := (E.map (·.1)).foldl min n0
def hullV (E : List (Int × Int)) (n0 : Int) : List Int := (List.range E.length).map fun i => itE E i (minE E n0)
theorem mget_nx : ∀ (L : MI) (a : Int), (mget a L).getD 0 = nxE (L.map fun e => (e.1, e.2.1)) a
 | [], _ => rfl
 | e :: L, a => by
  have ih := mget_nx L a
  rw [mget_cons, List.map_cons]
  unfold nxE
  rw [List.find?_cons]
  by_cases h : e.1 = a
  ·rw [if_pos h.symm, decide_eq_true h]; rfl
  ·rw [if_neg (fun q => h q.symm), decide_eq_false h]; exact ih
theorem itN_it (L : MI) (f : Int) : ∀ k, itN L k f = itE (L.map fun e => (e.1, e.2.1)) k f
 | 0 => rfl
 | k + 1 => by
  show (mget (itN L k f) L).getD 0 = nxE _ (itE _ k f)
  rw [mget_nx, itN_it L f k]
theorem hullOf_E {tris : List Tr} {n0 : Int} {E : List (Int × Int)} (hE : (reals tris).flatMap (fun x => hEt tris x.2) = E) (hn : (E.map (·.1)).Nodup) : hullOf tris n0 = hullV E n0 := by
 obtain ⟨h1, h2⟩ := hFold E ([], 0, n0) (fun e _ q => nomatch q) hn
 rw [List.map_nil, List.nil_append] at h1
 unfold hullOf hullW hullV
 rw [hullM_edges, hE]
 have hl : (E.foldl hStep ([], 0, n0)).1.length = E.length := by rw [← List.length_map (f := fun e => (e.1, e.2.1)), h1]
 rw [hl]
 congr 1
 funext i
 rw [itN_it, h1, h2]
 rfl
theorem nxE_mem {E : List (Int × Int)} (hn : (E.map (·.1)).Nodup) {a b : Int} (h : (a, b) ∈ E) : nxE E a = b := by
 induction E with
 | nil => cases h
 | cons e E ih =>
  rw [List.map_cons, List.nodup_cons] at hn
  unfold nxE
  rw [List.find?_cons]
  rcases List.mem_cons.1 h with q | q
  ·subst q; simp
  ·have hne : e.1 ≠ a := fun p => hn.1 (by rw [p]; exact List.mem_map.2 ⟨_, q, rfl⟩)
   rw [decide_eq_false hne]
   exact ih hn.2 q
theorem nxE_no {E : List (Int × Int)} {a : Int} (h : ∀ b, ¬ (a, b) ∈ E) : nxE E a = 0 := by
 unfold nxE
 rw [show E.find? (fun e => decide (e.1 = a)) = none from by
  rw [List.find?_eq_none]
  intro e he q
  obtain ⟨e1, e2⟩ := e
  have q1 : e1 = a := by simpa using q
  subst q1
  exact h e2 he]
 rfl
theorem nxE_perm {E E' : List (Int × Int)} (hp : E.Perm E') (hn : (E'.map (·.1)).Nodup) (a : Int) : nxE E a = nxE E' a := by
 have hn' : (E.map (·.1)).Nodup := (hp.map _).nodup_iff.2 hn
 by_cases h : ∃ b, (a, b) ∈ E
 ·obtain ⟨b, hb⟩ := h
  rw [nxE_mem hn' hb, nxE_mem hn (hp.mem_iff.1 hb)]
 ·rw [nxE_no (fun b q => h ⟨b, q⟩), nxE_no (fun b q => h ⟨b, hp.mem_iff.2 q⟩)]
theorem foldl_min : ∀ (l : List Int) (m : Int), l.foldl min m ≤ m ∧ (∀ x, x ∈ l → l.foldl min m ≤ x) ∧ (l.foldl min m = m ∨ l.foldl min m ∈ l)
 | [], m => ⟨Int.le_refl _, fun _ h => (nomatch h), .inl rfl⟩
 | x :: l, m => by
  obtain ⟨h1, h2, h3⟩ := foldl_min l (min m x)
  rw [List.foldl_cons]
  refine ⟨by omega, fun y hy => ?_, ?_⟩
  ·rcases List.mem_cons.1 hy with rfl | hy
   ·omega
   ·exact h2 y hy
  ·rcases h3 with h3 | h3
   ·rcases (show min m x = m ∨ min m x = x by omega) with q | q
    ·rw [q] at h3; rw [q]; exact .inl h3
    ·rw [q] at h3; rw [q]; exact .inr (by rw [h3]; exact .head _)
   ·exact .inr (.tail _ h3)
theorem minE_perm {E E' : List (Int × Int)} (hp : E.Perm E') (n0 : Int) : minE E n0 = minE E' n0 := by
 unfold minE
 have hp' := hp.map (·.1)
 obtain ⟨a1, a2, a3⟩ := foldl_min (E.map (·.1)) n0
 obtain ⟨b1, b2, b3⟩ := foldl_min (E'.map (·.1)) n0
 have h1 : (E.map (·.1)).foldl min n0 ≤ (E'.map (·.1)).foldl min n0 := by
  rcases b3 with q | q
  ·omega
  ·exact a2 _ (hp'.mem_iff.2 q)
 have h2 : (E'.map (·.1)).foldl min n0 ≤ (E.map (·.1)).foldl min n0 := by
  rcases a3 with q | q
  ·omega
  ·exact b2 _ (hp'.mem_iff.1 q)
 omega
theorem hullV_perm {E E' : List (Int × Int)} (hp : E.Perm E') (hn : (E'.map (·.1)).Nodup) (n0 : Int) : hullV E n0 = hullV E' n0 := by
 have hi : ∀ k v, itE E k v = itE E' k v := by
  intro k v
  induction k with
  | zero => rfl
  | succ k ih =>
   show nxE E (itE E k v) = nxE E' (itE E' k v)
   rw [ih, nxE_perm hp hn]
 unfold hullV
 rw [hp.length_eq, minE_perm hp]
 congr 1
 funext i
 exact hi _ _
theorem sub_flat {α β : Type} (f : α → List β) {l l' : List α} (h : l.Sublist l') : (l.flatMap f).Sublist (l'.flatMap f) := by
 induction h with
 | slnil => exact List.Sublist.refl _
 | cons x _ ih => rw [List.flatMap_cons]; exact ih.trans (List.sublist_append_right _ _)
 | cons_cons x _ ih => rw [List.flatMap_cons, List.flatMap_cons]; exact List.Sublist.append (List.Sublist.refl _) ih
section
variable {F : MapI} {tris : List Tr} {V : List (Nat × T3)} {n : Nat} {pts : List (Int × Int)} {ats : List Int}
theorem LM.real_at (h : LM F tris V) {y : Nat × T3} (hy : y ∈ V) : isReal tris (y.1 : Int) ↔ rv y.2 := by
 obtain ⟨t, ht, hv⟩ := h.get hy
 rw [← hv]
 constructor
 ·rintro ⟨_, u, hu, hr⟩
  rw [Int.toNat_natCast, ht] at hu
  cases hu
  exact hr
 ·intro hr
  exact ⟨Int.natCast_nonneg _, t, by rw [Int.toNat_natCast]; exact ht, hr⟩
theorem LM.mem_real (h : LM F tris V) {q : Nat} {t : Tr} : (q, t) ∈ reals tris ↔ tris[q]? = some t ∧ (q, (t.v0, t.v1, t.v2)) ∈ V ∧ rv (t.v0, t.v1, t.v2) := by
 rw [reals_mem]
 constructor
 ·rintro ⟨h1, h2⟩
  exact ⟨h1, h.of h1 (by have := h2.1; omega), h2⟩
 ·rintro ⟨h1, _, h3⟩
  exact ⟨h1, h3⟩
theorem LM.hE (h : LM F tris V) (hT : TG n (V.map (·.2))) : ((reals tris).flatMap (fun x => hEt tris x.2)).Perm (openE ((V.map (·.2)).filter (fun v => decide (rv v)))) := by
 have hsub : ∀ {v k}, v ∈ (V.map (·.2)).filter (fun v => decide (rv v)) → k < 3 → kv v k ∈ ((V.map (·.2)).filter (fun v => decide (rv v))).flatMap eds := by
  intro v k hv hk
  refine List.mem_flatMap.2 ⟨v, hv, ?_⟩
  match k, hk with
  | 0, _ => exact .head _
  | 1, _ => exact .tail _ (.head _)
  | 2, _ => exact .tail _ (.tail _ (.head _))
 have hn2 : (((V.map (·.2)).filter (fun v => decide (rv v))).flatMap eds).Nodup := hT.nd.sublist (sub_flat _ List.filter_sublist)
 have hn1 : ((reals tris).flatMap (fun x => hEt tris x.2)).Nodup := by
  have e1 : ((reals tris).map (fun x => ((x.1, (x.2.v0, x.2.v1, x.2.v2)) : Nat × T3))).Perm (V.filter (fun x => decide (rv x.2))) := by
   rw [show reals tris = realsF 0 tris from rfl, realsF_lv]
   exact (h.perm hT).filter _
  have e2 : ((reals tris).flatMap (fun x => eds (x.2.v0, x.2.v1, x.2.v2))).Nodup := by
   have e3 : (reals tris).flatMap (fun x => eds (x.2.v0, x.2.v1, x.2.v2)) = ((reals tris).map (fun x => ((x.1, (x.2.v0, x.2.v1, x.2.v2)) : Nat × T3))).flatMap (fun x => eds x.2) := by rw [List.flatMap_map]
   rw [e3, (e1.flatMap_right (fun x => eds x.2)).nodup_iff]
   refine List.Nodup.sublist (sub_flat _ List.filter_sublist) ?_
   rw [flatMap_snd]
   exact hT.nd
  have key : ∀ l : List (Nat × Tr), (l.flatMap (fun x => hEt tris x.2)).Sublist (l.flatMap (fun x => eds (x.2.v0, x.2.v1, x.2.v2))) := by
   intro l
   induction l with
   | nil => exact List.Sublist.refl _
   | cons x l ih =>
    rw [List.flatMap_cons, List.flatMap_cons]
    refine List.Sublist.append ?_ ih
    exact (List.filter_sublist (l := [0, 1, 2])).map (edT x.2)
  exact e2.sublist (key _)
 rw [List.perm_ext_iff_of_nodup hn1 (hn2.sublist (by unfold openE; exact List.filter_sublist))]
 intro e
 rw [mem_openE]
 constructor
 ·intro he
  obtain ⟨⟨q, t⟩, hx, hk⟩ := List.mem_flatMap.1 he
  obtain ⟨ht, hV, hr⟩ := h.mem_real.1 hx
  unfold hEt at hk
  obtain ⟨k, hk2, rfl⟩ := List.mem_map.1 hk
  rw [List.mem_filter] at hk2
  obtain ⟨hk3, hnr⟩ := hk2
  have hk3 := lt3 hk3
  have hR : (t.v0, t.v1, t.v2) ∈ (V.map (·.2)).filter (fun v => decide (rv v)) := List.mem_filter.2 ⟨List.mem_map.2 ⟨_, hV, rfl⟩, by simpa using hr⟩
  refine ⟨hsub hR hk3, fun p => ?_⟩
  obtain ⟨y, hy, j, hj, he2, hn, _⟩ := h.across hT hV ht hk3
  obtain ⟨w, hw, hwe⟩ := List.mem_flatMap.1 p
  rw [List.mem_filter] at hw
  obtain ⟨hw1, hw2⟩ := hw
  obtain ⟨z, hz, rfl⟩ := List.mem_map.1 hw1
  have : ∃ m, m < 3 ∧ kv z.2 m = rev2 (edT t k) := by
   simp only [eds, List.mem_cons, List.not_mem_nil, or_false] at hwe
   rcases hwe with q | q | q
   ·exact ⟨0, by decide, q.symm⟩
   ·exact ⟨1, by decide, q.symm⟩
   ·exact ⟨2, by decide, q.symm⟩
  obtain ⟨m, hm, hzm⟩ := this
  have hyz := (h.un y hy j hj z hz m hm (he2.trans hzm.symm)).1
  have hnr' : ¬ isReal tris (t.n k) := by simpa using hnr
  rw [hn] at hnr'
  exact hnr' ((h.real_at hy).2 (by rw [hyz]; simpa using hw2))
 ·rintro ⟨h1, h2⟩
  obtain ⟨w, hw, hwe⟩ := List.mem_flatMap.1 h1
  rw [List.mem_filter] at hw
  obtain ⟨hw1, hw2⟩ := hw
  obtain ⟨x, hx, rfl⟩ := List.mem_map.1 hw1
  have hwr : rv x.2 := by simpa using hw2
  obtain ⟨t, ht, htv⟩ := h.get hx
  have : ∃ k, k < 3 ∧ e = edT t k := by
   rw [← htv] at hwe
   simp only [eds, List.mem_cons, List.not_mem_nil, or_false] at hwe
   rcases hwe with q | q | q
   ·exact ⟨0, by decide, q⟩
   ·exact ⟨1, by decide, q⟩
   ·exact ⟨2, by decide, q⟩
  obtain ⟨k, hk, rfl⟩ := this
  refine List.mem_flatMap.2 ⟨(x.1, t), h.mem_real.2 ⟨ht, by rw [htv]; exact hx, by rw [htv]; exact hwr⟩, ?_⟩
  unfold hEt
  refine List.mem_map.2 ⟨k, List.mem_filter.2 ⟨in3' hk, ?_⟩, rfl⟩
  obtain ⟨y, hy, j, hj, he2, hn, _⟩ := h.across hT hx ht hk
  rw [Bool.not_eq_true', decide_eq_false_iff_not, hn]
  intro hr
  apply h2
  have hyr := (h.real_at hy).1 hr
  have hm := hsub (List.mem_filter.2 ⟨List.mem_map.2 ⟨y, hy, rfl⟩, by simpa using hyr⟩) hj
  rw [he2] at hm
  rw [← htv] at hm
  exact hm
theorem LM.sumA (h : LM F tris V) (hT : TG n (V.map (·.2))) : sumA pts (reals tris) = (((V.map (·.2)).filter (fun v => decide (rv v))).map fun v => A2p pts v.1 v.2.1 v.2.2).sum := by
 have e1 : ((reals tris).map (fun x => ((x.1, (x.2.v0, x.2.v1, x.2.v2)) : Nat × T3))).Perm (V.filter (fun x => decide (rv x.2))) := by
  rw [show reals tris = realsF 0 tris from rfl, realsF_lv]
  exact (h.perm hT).filter _
 have e2 := sum_perm (fun x : Nat × T3 => A2p pts x.2.1 x.2.2.1 x.2.2.2) e1
 rw [List.map_map] at e2
 unfold Go.Proofs.Ytbanlhlggkdanaa.sumA
 rw [show ((V.map (·.2)).filter (fun v => decide (rv v))) = (V.filter (fun x => decide (rv x.2))).map (·.2) from by rw [List.filter_map]; rfl, List.map_map]
 exact e2
end
def hB (W H : Nat) (f : Nat → Bool) : Bool :=
 let E := openE (gTris W H f)
 let l := hullV E (gPts W H).length
 decide ((gAll W H f).filter (fun v => decide (rv v)) = gTris W H f) && (decide ((E.map (·.1)).Nodup) && (l.all (fun v => decide (0 ≤ v ∧ v < (gPts W H).length)) && ((List.range l.length).all (fun i => l.all fun c => decide (0 ≤ A2p (gPts W H) (l.getD i 0) (l.getD ((i + 1) % l.length) 0) c)) &&
 decide (((gTris W H f).map fun v => A2p (gPts W H) v.1 v.2.1 v.2.2).sum = outA (gPts W H) l l.length))))
theorem hB_all : ∀ b0 b1 b2 b3 : Bool, hB 1 1 (bit4 b0 b1 b2 b3) = true ∧ hB 1 2 (bit4 b0 b1 b2 b3) = true ∧ hB 2 1 (bit4 b0 b1 b2 b3) = true ∧ hB 2 2 (bit4 b0 b1 b2 b3) = true := by decide +kernel
theorem hB_true {W H : Nat} {f : Nat → Bool} (hW : W = 1 ∨ W = 2) (hH : H = 1 ∨ H = 2) : hB W H f = true := by
 have := hB_all (f 0) (f 1) (f 2) (f 3)
 unfold hB gAll at this ⊢
 rw [gTris_nf hW hH]
 rcases hW with rfl | rfl <;> rcases hH with rfl | rfl
 ·exact this.1
 ·exact this.2.1
 ·exact this.2.2.1
 ·exact this.2.2.2
theorem GM.hull {F : MapI} {W H : Nat} {f : Nat → Bool} {M : MD} {V : List (Nat × T3)} (h : GM F W H f M V) (hW : W = 1 ∨ W = 2) (hH : H = 1 ∨ H = 2) : hullOf M.tris (M.pts.length : Nat) = hullV (openE (gTris W H f)) (gPts W H).length := by
 have hb := hB_true (f := f) hW hH
 unfold hB at hb
 simp only [Bool.and_eq_true, decide_eq_true_eq] at hb
 obtain ⟨b1, b2, _⟩ := hb
 have hp := h.lm.hE h.tg
 have hq : (openE ((V.map (·.2)).filter (fun v => decide (rv v)))).Perm (openE (gTris W H f)) := by
  have := (h.pm.filter (fun v => decide (rv v)))
  rw [b1] at this
  rw [List.perm_ext_iff_of_nodup]
  ·intro e
   rw [mem_openE, mem_openE]
   have hm := (this.flatMap_right eds).mem_iff (a := e)
   have hm2 := (this.flatMap_right eds).mem_iff (a := rev2 e)
   rw [hm, hm2]
  ·exact (h.tg.nd.sublist (sub_flat _ List.filter_sublist)).sublist (by unfold openE; exact List.filter_sublist)
  ·have := nodup_of_map b2
   exact this
 have hpq := hp.trans hq
 rw [hullOf_E rfl ((hpq.map _).nodup_iff.2 b2), hullV_perm hpq b2, h.pts]
theorem GM.ar {F : MapI} {W H : Nat} {f : Nat → Bool} {M : MD} {V : List (Nat × T3)} (h : GM F W H f M V) (hW : W = 1 ∨ W = 2) (hH : H = 1 ∨ H = 2) : ArOk M.pts M.tris := by
 have hb := hB_true (f := f) hW hH
 unfold hB at hb
 simp only [Bool.and_eq_true, decide_eq_true_eq, List.all_eq_true, List.mem_range] at hb
 obtain ⟨b1, b2, b3, b4, b5⟩ := hb
 refine ⟨?_, ?_, ?_⟩
 ·rw [h.hull hW hH, h.pts]
  exact b3
 ·rw [h.hull hW hH, h.pts]
  intro i a b c ha hb hc
  have := b4 i (List.getElem?_eq_some_iff.1 ha).1 c hc
  rw [getD_of ha, getD_of hb] at this
  exact this
 ·rw [h.hull hW hH, h.lm.sumA h.tg, h.pts, ← b5]
  have := (h.pm.filter (fun v => decide (rv v)))
  rw [b1] at this
  exact sum_perm _ this
end Go.Proofs.Ytbanlhlggkdanaa
namespace Go.Proofs.Ytbanlhlggkdanaa
open Go.RowKit
theorem kv_norev {v : T3} (h : dist3 v) {j k : Nat} (hj : j < 3) (hk : k < 3) : kv v j ≠ rev2 (kv v k) := by
 intro q
 rw [kv_tv, kv_tv] at q
 have e1 := tv_inj h (Nat.mod_lt _ (by decide)) (Nat.mod_lt _ (by decide)) (congrArg Prod.fst q)
 have e2 := tv_inj h (Nat.mod_lt _ (by decide)) (Nat.mod_lt _ (by decide)) (congrArg Prod.snd q)
 omega
section
variable {F : MapI} {W H : Nat} {f : Nat → Bool} {M : MD} {V : List (Nat × T3)}
end
end Go.Proofs.Ytbanlhlggkdanaa
namespace Go.Proofs.Ytbanlhlggkdanaa
open Go.RowKit
end Go.Proofs.Ytbanlhlggkdanaa
namespace Go.Proofs.Ytbanlhlggkdanaa
open Go.RowKit
def pla (tris : List Tr) (v x : Int) : Nat := match tris[x.toNat]? with
 | some t => (plc t v).toNat
 | none => 0
def arAt (tris : List Tr) (v fr : Int) (j : Nat) : Int × Nat := (itr tris v j fr, pla tris v (itr tris v j fr))
def arL (tris : List Tr) (v fr : Int) (N : Nat) : List (Int × Nat) := (List.range N).map (arAt tris v fr)
structure ArH (tris : List Tr) (ats : List Int) (v fr : Int) (N : Nat) : Prop where
 v0 : 0 ≤ v
 at_ : ats[v.toNat]? = some fr
 n1 : 1 ≤ N
 n2 : N ≤ tris.length
 cl : ∀ j, 0 ≤ itr tris v j fr ∧ ∃ (t : Tr) (p : Nat), tris[(itr tris v j fr).toNat]? = some t ∧ plc t v = p ∧ p < 3
 en : itr tris v N fr = fr
 no : ∀ j, 0 < j → j < N → itr tris v j fr ≠ fr
end Go.Proofs.Ytbanlhlggkdanaa
namespace Go.Proofs.Ytbanlhlggkdanaa
open Go.RowKit
theorem zer_4 : zer Try.prog 4 = some (.bool false) := by kernel_rfl
def isE (t : Tr) (k : Nat) (a b : Int) : Prop := t.v ((k + 1) % 3) = a ∧ t.v ((k + 2) % 3) = b
def FndOk (tris : List Tr) (ats : List Int) (a b : Int) (r : Int × Int × Bool) : Prop :=
 (r = (-1, 0, false) ∧ (max a b < 0 ∨ a = b ∨ ∃ fr N, ArH tris ats (max a b) fr N ∧ ∀ x, x ∈ arL tris (max a b) fr N → ∀ t, tris[x.1.toNat]? = some t → ∀ k, k < 3 → ¬ isE t k a b)) ∨
 ∃ (q : Int) (t : Tr) (k : Nat), 0 ≤ q ∧ tris[q.toNat]? = some t ∧ k < 3 ∧ isE t k a b ∧ r = (q, (k : Int), true)
end Go.Proofs.Ytbanlhlggkdanaa
namespace Go.Proofs.Ytbanlhlggkdanaa
open Go.RowKit
section
variable {F : MapI} {W H : Nat} {f : Nat → Bool} {M : MD} {V : List (Nat × T3)}
theorem GM.cover (h : GM F W H f M V) {v fr : Int} {N : Nat} (hA : ArH M.tris M.ats v fr N) {x : Nat × T3} (hx : x ∈ V) {k : Nat} (hk : k < 3) (he : tv x.2 k = v) : ((x.1 : Int), k) ∈ arL M.tris v fr N := by
 have hv0 := hA.v0
 have hvl := (List.getElem?_eq_some_iff.1 hA.at_).1
 rw [h.ats] at hvl
 obtain ⟨y, hy, hya, hyh⟩ := h.at_ v.toNat hvl
 rw [hA.at_] at hya
 obtain rfl := Option.some.inj hya
 rw [Int.toNat_of_nonneg hv0] at hyh
 obtain ⟨m, hm, hmv⟩ := has3_tv.1 hyh
 obtain ⟨ws, hn, h0, hcA, hl, i0, hil, hi0, ho, hall⟩ := h.lm.orbit h.tg hy hm
 obtain ⟨N', n1, n2, n3, n4, n5⟩ := h.lm.orb_end h.tg hy hm
 rw [hmv] at ho hall hcA n2 n4 n5
 have hNN : N = N' := by
  rcases Nat.lt_trichotomy N N' with q | q | q
  ·exact absurd hA.en (n5 N hA.n1 q)
  ·exact q
  ·exact absurd n4 (hA.no N' n1 q)
 have hwN : ws.length = N := by omega
 obtain ⟨i, hi, hiw⟩ := hall x hx k hk he
 have hj : ∃ j, j < N ∧ (i0 + j) % ws.length = i := by
  rcases Nat.lt_or_ge i i0 with q | q
  ·refine ⟨i + ws.length - i0, by omega, ?_⟩
   rw [show i0 + (i + ws.length - i0) = i + ws.length by omega, Nat.add_mod_right, Nat.mod_eq_of_lt hi]
  ·refine ⟨i - i0, by omega, ?_⟩
   rw [show i0 + (i - i0) = i by omega, Nat.mod_eq_of_lt hi]
 obtain ⟨j, hjN, hji⟩ := hj
 obtain ⟨z, hz, hzi, m', hm', hzm, hzw⟩ := ho j
 rw [hji, hiw] at hzw
 obtain ⟨rfl, rfl⟩ := h.lm.same hx hz hk hm' (he.trans hzm.symm) (Option.some.inj hzw)
 refine List.mem_map.2 ⟨j, List.mem_range.2 hjN, ?_⟩
 unfold arAt pla
 obtain ⟨t, ht, _⟩ := h.lm.get hx
 rw [hzi, Int.toNat_natCast, ht]
 dsimp only
 have := h.lm.plc h.tg hx ht hk
 rw [he] at this
 rw [this]
 rfl
def WnI (tris : List Tr) (a b : Int) (n k : Nat) (s : Int × Int) : Prop :=
 (s = (-1, 0) ∧ ∀ (q : Nat) (t : Tr) (m : Nat), tris[q]? = some t → m < 3 → (q < n ∨ q = n ∧ m < k) → ¬ isE t m a b) ∨
 ∃ (q : Nat) (t : Tr) (m : Nat), tris[q]? = some t ∧ m < 3 ∧ isE t m a b ∧ s = ((q : Int), (m : Int))
theorem WnI.hit {tris : List Tr} {a b : Int} {n k : Nat} {t : Tr} (ht : tris[n]? = some t) (hk : k < 3) (he : isE t k a b) : WnI tris a b n (k + 1) ((n : Int), (k : Int)) := .inr ⟨n, t, k, ht, hk, he, rfl⟩
theorem WnI.next {tris : List Tr} {a b : Int} {n : Nat} {s : Int × Int} (h : WnI tris a b n 3 s) : WnI tris a b (n + 1) 0 s := by
 rcases h with ⟨h1, h2⟩ | h
 ·refine .inl ⟨h1, fun q u m hu hm hq => h2 q u m hu hm ?_⟩
  rcases hq with hq | ⟨_, hq⟩
  ·rcases Nat.lt_succ_iff_lt_or_eq.1 hq with p | p
   ·exact .inl p
   ·exact .inr ⟨p, hm⟩
  ·omega
 ·exact .inr h
theorem GM.find (h : GM F W H f M V) {a b : Int} (ha : -1 ≤ a) (hb : -1 ≤ b) {s : Int × Int} {r : Int × Int × Bool} (hw : WnI M.tris a b M.tris.length 0 s) (hf : FndOk M.tris M.ats a b r) : r = (s.1, s.2, decide (0 ≤ s.1)) := by
 have live : ∀ {q : Nat} {t : Tr} {m : Nat}, M.tris[q]? = some t → m < 3 → isE t m a b → (q, (t.v0, t.v1, t.v2)) ∈ V := by
  intro q t m ht hm he
  refine h.lm.of ht (fun h0 => ?_)
  obtain ⟨g1, g2⟩ := h.lm.gone h.tg t (List.mem_of_getElem? ht) h0
  have : t.v ((m + 1) % 3) = -2 := by
   have hm1 := Nat.mod_lt (m + 1) (by decide : 0 < 3)
   generalize (m + 1) % 3 = j at *
   match j, hm1 with
   | 0, _ => exact h0
   | 1, _ => exact g1
   | 2, _ => exact g2
  have := he.1
  omega
 have edge : ∀ {q : Nat} {t : Tr} {m : Nat}, M.tris[q]? = some t → m < 3 → isE t m a b → kv (t.v0, t.v1, t.v2) m = (a, b) := fun _ _ he => Prod.ext he.1 he.2
 have one : ∀ {q : Nat} {t : Tr} {m : Nat}, M.tris[q]? = some t → m < 3 → isE t m a b → ∀ {q' : Nat} {t' : Tr} {m' : Nat}, M.tris[q']? = some t' → m' < 3 → isE t' m' a b → q = q' ∧ m = m' := by
  intro q t m ht hm he q' t' m' ht' hm' he'
  obtain ⟨e1, e2⟩ := h.lm.un _ (live ht hm he) m hm _ (live ht' hm' he') m' hm' ((edge ht hm he).trans (edge ht' hm' he').symm)
  exact ⟨congrArg Prod.fst e1, e2⟩
 rcases hf with ⟨rfl, hno⟩ | ⟨q, t, k, hq0, ht, hk, he, rfl⟩
 ·rcases hw with ⟨rfl, _⟩ | ⟨q, t, m, ht, hm, he, rfl⟩
  ·rfl
  ·exfalso
   have hx := live ht hm he
   have hd := h.tg.ds _ (List.mem_map.2 ⟨_, hx, rfl⟩)
   have i1 := Nat.mod_lt (m + 1) (by decide : 0 < 3)
   have i2 := Nat.mod_lt (m + 2) (by decide : 0 < 3)
   have hne : (m + 1) % 3 ≠ (m + 2) % 3 := by omega
   have ea : tv (t.v0, t.v1, t.v2) ((m + 1) % 3) = a := he.1
   have eb : tv (t.v0, t.v1, t.v2) ((m + 2) % 3) = b := he.2
   have hab : a ≠ b := fun p => hne (tv_inj hd i1 i2 (ea.trans (p.trans eb.symm)))
   rcases hno with p | p | ⟨fr, N, hA, hall⟩
   ·omega
   ·exact hab p
   ·have : ∃ j, j < 3 ∧ tv (t.v0, t.v1, t.v2) j = max a b := by
     rcases (show max a b = a ∨ max a b = b by omega) with p | p
     ·exact ⟨_, i1, ea.trans p.symm⟩
     ·exact ⟨_, i2, eb.trans p.symm⟩
    obtain ⟨j, hj, hje⟩ := this
    have := h.cover hA hx hj hje
    exact hall _ this t (by simpa using ht) m hm he
 ·have ht' : M.tris[q.toNat]? = some t := ht
  rcases hw with ⟨rfl, hno⟩ | ⟨q', t', m, ht2, hm, he2, rfl⟩
  ·exact absurd he (hno q.toNat t k ht' hk (.inl (List.getElem?_eq_some_iff.1 ht').1))
  ·obtain ⟨e1, e2⟩ := one ht' hk he ht2 hm he2
   subst e2
   rw [← e1]
   dsimp only
   rw [Int.toNat_of_nonneg hq0, decide_eq_true hq0]
end
end Go.Proofs.Ytbanlhlggkdanaa
namespace Go.Proofs.Ytbanlhlggkdanaa
open Go.RowKit
section
variable {E : Env} {Q : Qt} {σ : List (Nat × Value)} {μ φ ml pl : List Res} {ops : Array Oper} {rest : List Oper} {fuel : Nat} {listed : Array Bool} {ty : TypeId} {pos : String} {af : Array Edge} {gd : Option (Nat × Bool)} {d : Tmp}
end
end Go.Proofs.Ytbanlhlggkdanaa
namespace Go.Proofs.Ytbanlhlggkdanaa
open Go.RowKit
section
variable {E : Env} {Q : Qt} {σ : List (Nat × Value)} {μ φ : List Res} {cd : Code}
open Classical in
end
end Go.Proofs.Ytbanlhlggkdanaa
namespace Go.Proofs.Ytbanlhlggkdanaa
open Go.RowKit
section
variable {F : MapI} {W H : Nat} {f : Nat → Bool} {M : MD} {V : List (Nat × T3)}
end
end Go.Proofs.Ytbanlhlggkdanaa
namespace Go.Proofs.Ytbanlhlggkdanaa
open Go.RowKit
end Go.Proofs.Ytbanlhlggkdanaa
namespace Go.Proofs.Ytbanlhlggkdanaa
open Go.RowKit
section
variable {F : MapI} {W H : Nat} {f : Nat → Bool} {M : MD} {V : List (Nat × T3)}
end
end Go.Proofs.Ytbanlhlggkdanaa
namespace Go.Proofs.Ytbanlhlggkdanaa
open Go.RowKit
theorem ent_44 : Enter Try.prog 44 = true := by kernel_rfl
theorem ent_70 : Enter Try.prog 70 = true := by kernel_rfl
def cfG (pts : List (Int × Int)) (t : Tr) (p : Int × Int) (i : Nat) : Bool :=
 decide (0 < A2 (ptAt pts (t.v ((i + 1) % 3))).1 (ptAt pts (t.v ((i + 1) % 3))).2 (ptAt pts (t.v ((i + 2) % 3))).1 (ptAt pts (t.v ((i + 2) % 3))).2 p.1 p.2) ||
 decide (Btw p.1 p.2 (ptAt pts (t.v ((i + 1) % 3))).1 (ptAt pts (t.v ((i + 1) % 3))).2 (ptAt pts (t.v ((i + 2) % 3))).1 (ptAt pts (t.v ((i + 2) % 3))).2)
def cfB (pts : List (Int × Int)) (t : Tr) (p : Int × Int) : Bool :=
 if t.v 0 = -1 then cfG pts t p 0 else if t.v 1 = -1 then cfG pts t p 1 else if t.v 2 = -1 then cfG pts t p 2 else
  decide (0 < Inc (ptAt pts (t.v 0)).1 (ptAt pts (t.v 0)).2 (ptAt pts (t.v 1)).1 (ptAt pts (t.v 1)).2 (ptAt pts (t.v 2)).1 (ptAt pts (t.v 2)).2 p.1 p.2)
def cfOk (n : Nat) (t : Tr) : Prop := (∀ k, k < 3 → t.v k = -1 → (0 ≤ t.v ((k + 1) % 3) ∧ t.v ((k + 1) % 3) < n) ∧ 0 ≤ t.v ((k + 2) % 3) ∧ t.v ((k + 2) % 3) < n) ∧ ((∀ k, k < 3 → t.v k ≠ -1) → ∀ k, k < 3 → 0 ≤ t.v k ∧ t.v k < n)
theorem cfB_at {pts : List (Int × Int)} {t : Tr} {p : Int × Int} {k : Nat} (hk : k < 3) (h : t.v k = -1) (hno : ∀ j, j < k → t.v j ≠ -1) : cfB pts t p = cfG pts t p k := by
 unfold cfB
 match k, hk with
 | 0, _ => rw [if_pos h]
 | 1, _ => rw [if_neg (hno 0 (by decide)), if_pos h]
 | 2, _ => rw [if_neg (hno 0 (by decide)), if_neg (hno 1 (by decide)), if_pos h]
theorem cfB_no {pts : List (Int × Int)} {t : Tr} {p : Int × Int} (hno : ∀ j, j < 3 → t.v j ≠ -1) : cfB pts t p = decide (0 < Inc (ptAt pts (t.v 0)).1 (ptAt pts (t.v 0)).2 (ptAt pts (t.v 1)).1 (ptAt pts (t.v 1)).2 (ptAt pts (t.v 2)).1 (ptAt pts (t.v 2)).2 p.1 p.2) := by
 unfold cfB
 rw [if_neg (hno 0 (by decide)), if_neg (hno 1 (by decide)), if_neg (hno 2 (by decide))]
theorem w3_get {t : Tr} {k : Nat} (hk : k < 3) : (#[.int .i64 t.v0, .int .i64 t.v1, .int .i64 t.v2] : Array Value)[0 + ((k : Nat) : Int).toNat * 1]? = some (.int .i64 (t.v k)) := by
 match k, hk with
 | 0, _ => rfl
 | 1, _ => rfl
 | 2, _ => rfl
theorem sgn_gt0 {n : Int} : sgn n > 0 ↔ 0 < n := by have := sgn_cases n; omega
theorem row_v3 {l : List Tr} {i : Nat} {t : Tr} (h : l[i]? = some t) : ((trCells l).drop (i * 9)).take 3 = [.int .i64 t.v0, .int .i64 t.v1, .int .i64 t.v2] := by
 have := congrArg (fun q => q.take 3) (trCells_row h)
 rw [List.take_take] at this
 simpa [Tr.cells] using this
set_option maxRecDepth 100000 in
set_option maxHeartbeats 4000000 in
theorem conflict_c {B : Nat} {h : Mh} {pts : List (Int × Int)} {tris : List Tr} {t : Tr} {n : Nat} {p1 p2 : Int} (hP : ∀ j, j < pts.length → P2 (pts.getD j (0, 0)).1 (pts.getD j (0, 0)).2) (ht : tris[n]? = some t) (hv : cfOk pts.length t) (hlen : tris.length ≤ 1073741824) (hp : P2 p1 p2) : Tri Try.prog 44 [.pointer (some ⟨B, 0, none⟩), .int .i64 (n : Nat), ptv p1 p2] [] (meshFs B h pts tris) (Ret0 (.bool (cfB pts t (p1, p2)))) := by
 refine Tri_of (N := 87) Try.func44 rfl ent_44 rfl rfl ?_
 intro w0 S0 T0
 show CJ _ _ _ [(0, _), (1, _), (2, _)] _ _
 have htl := (List.getElem?_eq_some_iff.1 ht).1
 refine CJ_seq ?_
 refine CJ_reg ?_
 refine LJ_box (cs := #[_, _]) rfl rfl rfl rfl ?_
 intro b1
 refine LJ_y rfl rfl (YJ_assign rfl) ?_
 refine LJ_nil ?_
 refine QJ_then ?_
 refine CJ_seq ?_
 refine CJ_reg ?_
 refine LJ_y rfl rfl (YJ_move rfl) ?_
 refine LJ_y rfl rfl (YJ_nilCheck rfl) ?_
 refine LJ_y rfl rfl (YJ_fieldOwn rfl fld_57_1 rfl) ?_
 refine LJ_y rfl rfl (YJ_loadFactP (A := some ⟨B, 0, none⟩) (j := 1) rfl rfl tyi_54 m0 rfl) ?_
 refine LJ_y rfl rfl (YJ_move rfl) ?_
 refine LJ_y rfl rfl (YJ_ixFact rfl rfl elt_54 m2 (by decide) (by omega) (by omega) (by omega)) ?_
 refine LJ_y rfl rfl (YJ_fieldAddr rfl fld_37_0) ?_
 refine LJ_y rfl rfl (YJ_loadFactNP (A := h.T) (j := n * 9) (vs := [.int .i64 t.v0, .int .i64 t.v1, .int .i64 t.v2]) rfl (by rw [Addr.add_add]; congr 1) tyi_34 m2 (row_v3 ht) rfl) ?_
 refine LJ_alloc (cs := #[_, _, _]) rfl rfl zer_34 rfl ?_
 intro b2
 refine LJ_store (cs' := #[.int .i64 t.v0, .int .i64 t.v1, .int .i64 t.v2]) (μ' := [_, _]) 0 rfl rfl rfl rfl tyi_34 rfl (Nat.le_of_ble_eq_true rfl) rfl rfl rfl ?_
 refine LJ_nil ?_
 refine QJ_then ?_
 refine CJ_seq ?_
 refine CJ_seq ?_
 refine CJ_reg ?_
 refine LJ_y rfl rfl (YJ_move rfl) ?_
 refine LJ_nil ?_
 refine QJ_then ?_
 refine CJ_block ?_
 refine CJ_loopF (F := fun (i : Nat) => ⟨[(0, .pointer (some ⟨B, 0, none⟩)), (5, .pointer (some ⟨b1, 0, none⟩)), (7, .pointer (some ⟨b2, 0, none⟩)), (19, .int .i64 (i : Nat))], [], []⟩) (I := fun (i : Nat) => i ≤ 3 ∧ ∀ j, j < i → t.v j ≠ -1) (m := fun (i : Nat) => 3 - i) 0 (μr := [_, _]) ⟨Nat.zero_le _, fun _ h => absurd h (Nat.not_lt_zero _)⟩ (And.intro rfl (And.intro rfl (And.intro rfl (And.intro rfl (trivial))))) (permI [] rfl) (fun _ h => nomatch h) ?_
 rintro k ⟨hk, hno⟩
 try dsimp only at hk
 try dsimp only at hno
 show CJ _ _ _ [(0, .pointer (some ⟨B, 0, none⟩)), (5, .pointer (some ⟨b1, 0, none⟩)), (7, .pointer (some ⟨b2, 0, none⟩)), (19, .int .i64 (k : Nat))] (_ :: _ :: _) _
 refine CJ_seq ?_
 refine CJ_reg ?_
 refine LJ_y rfl rfl (YJ_bin rfl rfl rfl) ?_
 refine LJ_nil ?_
 refine QJ_then ?_
 refine CJ_seq ?_
 refine CJ_cond rfl (fun h20 => ?_) (fun h20 => ?_)
 ·simp only [decide_eq_true_eq] at h20
  have hk3 : k < 3 := by omega
  refine CJ_skip ?_
  refine QJ_then ?_
  refine CJ_seq ?_
  refine CJ_block ?_
  refine CJ_seq ?_
  refine CJ_reg ?_
  refine LJ_y rfl rfl (YJ_move rfl) ?_
  refine LJ_y rfl rfl (YJ_assign rfl) ?_
  refine LJ_nil ?_
  refine QJ_then ?_
  refine CJ_seq ?_
  refine CJ_seq ?_
  refine CJ_reg ?_
  refine LJ_y rfl rfl (YJ_move rfl) ?_
  refine LJ_y rfl rfl (YJ_ixArr rfl rfl arrt_34 (by omega) (by omega) rfl) ?_
  refine LJ_y rfl rfl (YJ_load1 rfl tyi_3 m0 (w3_get (t := t) hk3)) ?_
  refine LJ_y rfl rfl (YJ_bin rfl rfl rfl) ?_
  refine LJ_nil ?_
  refine QJ_then ?_
  refine CJ_cond rfl (fun h25 => ?_) (fun h25 => ?_)
  ·simp only [decide_eq_false_iff_not, Bool.not_eq_true'] at h25
   refine CJ_exit ?_
   refine QJ_then_exit ?_
   refine QJ_in_exit ?_
   refine QJ_then ?_
   refine CJ_reg ?_
   refine LJ_y rfl rfl (YJ_bin rfl rfl (iop_add (by omega))) ?_
   refine LJ_y rfl rfl (YJ_move rfl) ?_
   refine LJ_nil ?_
   refine QJ_roundF (F := fun (i : Nat) => ⟨[(0, .pointer (some ⟨B, 0, none⟩)), (5, .pointer (some ⟨b1, 0, none⟩)), (7, .pointer (some ⟨b2, 0, none⟩)), (19, .int .i64 (i : Nat))], [], []⟩) (I := fun (i : Nat) => i ≤ 3 ∧ ∀ j, j < i → t.v j ≠ -1) (m := fun (i : Nat) => 3 - i) (i := k) (k + 1) (μd := []) ⟨by omega, fun j hj => (Nat.lt_succ_iff_lt_or_eq.1 hj).elim (hno j) (fun e => by rw [e]; exact h25)⟩ (by omega) (And.intro rfl (And.intro rfl (And.intro rfl (And.intro rfl (trivial))))) (permI [] rfl) (fun _ h => nomatch h) (fun _ h => h)
  ·simp only [decide_eq_true_eq, Bool.not_eq_false'] at h25
   obtain ⟨⟨hg1, hg2⟩, hg3, hg4⟩ := hv.1 k hk3 h25
   refine CJ_skip ?_
   refine QJ_then ?_
   refine CJ_seq ?_
   refine CJ_regDA mix (by kernel_rfl) (fun _ _ _ _ _ h => h) _ _ (fun _ h => h) (fun _ h => h) [⟨22, 9, 23, #[.int .i64 0, .int .i64 0]⟩, ⟨23, 10, 23, #[.int .i64 0, .int .i64 0]⟩] 24 rfl (And.intro ⟨_, _, _, _, rfl, zer_23, rfl⟩ (And.intro ⟨_, _, _, _, rfl, zer_23, rfl⟩ (trivial))) rfl rfl ?_
   refine AA_y 0 rfl (by kernel_rfl) rfl rfl rfl (YJ_move rfl) ?_
   refine AA_y 1 rfl (by kernel_rfl) rfl rfl rfl (YJ_nilCheck rfl) ?_
   refine AA_y 2 rfl (by kernel_rfl) rfl rfl rfl (YJ_fieldOwn rfl fld_57_0 rfl) ?_
   refine AA_y 3 rfl (by kernel_rfl) rfl rfl rfl (YJ_loadFactP (A := some ⟨B, 0, none⟩) (j := 0) rfl rfl tyi_26 m0 rfl) ?_
   refine AA_y 4 rfl (by kernel_rfl) rfl rfl rfl (YJ_move rfl) ?_
   refine AA_y 5 rfl (by kernel_rfl) rfl rfl rfl (YJ_bin rfl rfl (iop_add (by omega))) ?_
   refine AA_y 6 rfl (by kernel_rfl) rfl rfl rfl (YJ_rem rfl rfl (by first | decide | omega)) ?_
   refine AA_val (v := .int .i64 (((k + 1) % 3 : Nat) : Int)) (congrArg (Value.int .i64) (tm3 (j := 1) hk3 (by decide))) ?_
   refine AA_y 7 rfl (by kernel_rfl) rfl rfl rfl (YJ_ixArr rfl rfl arrt_34 (by omega) (by omega) rfl) ?_
   refine AA_y 8 rfl (by kernel_rfl) rfl rfl rfl (YJ_load1 rfl tyi_3 m0 (w3_get (t := t) (Nat.mod_lt _ (by decide)))) ?_
   refine AA_y 9 rfl (by kernel_rfl) rfl rfl rfl (YJ_ixFact rfl rfl elt_26 m1 (by decide) (by omega) (by omega) (by omega)) ?_
   refine AA_y 10 rfl (by kernel_rfl) rfl rfl rfl (YJ_loadFactN (vs := [_, _]) (xs := ptCells pts) rfl tyi_23 m1 (ptCells_get (i := (t.v ((k + 1) % 3)).toNat) (by omega)) rfl) ?_
   refine AA_y 11 rfl (by kernel_rfl) rfl rfl rfl (YJ_move rfl) ?_
   refine AA_y 12 rfl (by kernel_rfl) rfl rfl rfl (YJ_nilCheck rfl) ?_
   refine AA_y 13 rfl (by kernel_rfl) rfl rfl rfl (YJ_fieldOwn rfl fld_57_0 rfl) ?_
   refine AA_y 14 rfl (by kernel_rfl) rfl rfl rfl (YJ_loadFactP (A := some ⟨B, 0, none⟩) (j := 0) rfl rfl tyi_26 m0 rfl) ?_
   refine AA_y 15 rfl (by kernel_rfl) rfl rfl rfl (YJ_move rfl) ?_
   refine AA_y 16 rfl (by kernel_rfl) rfl rfl rfl (YJ_bin rfl rfl (iop_add (by omega))) ?_
   refine AA_y 17 rfl (by kernel_rfl) rfl rfl rfl (YJ_rem rfl rfl (by first | decide | omega)) ?_
   refine AA_val (v := .int .i64 (((k + 2) % 3 : Nat) : Int)) (congrArg (Value.int .i64) (tm3 (j := 2) hk3 (by decide))) ?_
   refine AA_y 18 rfl (by kernel_rfl) rfl rfl rfl (YJ_ixArr rfl rfl arrt_34 (by omega) (by omega) rfl) ?_
   refine AA_y 19 rfl (by kernel_rfl) rfl rfl rfl (YJ_load1 rfl tyi_3 m0 (w3_get (t := t) (Nat.mod_lt _ (by decide)))) ?_
   refine AA_y 20 rfl (by kernel_rfl) rfl rfl rfl (YJ_ixFact rfl rfl elt_26 m1 (by decide) (by omega) (by omega) (by omega)) ?_
   refine AA_y 21 rfl (by kernel_rfl) rfl rfl rfl (YJ_loadFactN (vs := [_, _]) (xs := ptCells pts) rfl tyi_23 m1 (ptCells_get (i := (t.v ((k + 2) % 3)).toNat) (by omega)) rfl) ?_
   refine AA_end (by kernel_rfl) rfl ?_
   intro bs hbs
   obtain ⟨b3, b4, rfl⟩ := len_2 hbs
   clear hbs
   show AJ _ _ _ _ _ _ _ ((9, .pointer (some ⟨b3, 0, none⟩)) :: (10, .pointer (some ⟨b4, 0, none⟩)) :: _) (cellsR b3 _ _ :: cellsR b4 _ _ :: _) _
   refine AJ_store (cs' := #[_, _]) (μ' := [_, _, _, _]) 24 0 rfl (by kernel_rfl) rfl rfl rfl rfl tyi_23 rfl (Nat.le_of_ble_eq_true rfl) rfl rfl rfl (fun _ => AllIn.sub (And.intro m2 (And.intro m3 (trivial)))) ?_
   refine AJ_store (cs' := #[_, _]) (μ' := [_, _, _, _]) 25 1 rfl (by kernel_rfl) rfl rfl rfl rfl tyi_23 rfl (Nat.le_of_ble_eq_true rfl) rfl rfl rfl (fun _ => AllIn.sub (And.intro m2 (And.intro m3 (trivial)))) ?_
   refine AJ_done (by kernel_rfl) ?_
   refine QJ_then ?_
   refine CJ_seq ?_
   refine CJ_reg ?_
   refine LJ_y rfl rfl (YJ_loadN (vs := [_, _]) rfl tyi_23 m0 rfl rfl) ?_
   refine LJ_y rfl rfl (YJ_loadN (vs := [_, _]) rfl tyi_23 m1 rfl rfl) ?_
   refine LJ_y rfl rfl (YJ_loadN (vs := [_, _]) rfl tyi_23 m3 rfl rfl) ?_
   refine LJ_call0 rfl rfl rfl rfl rfl (orient_c (hP (t.v ((k + 1) % 3)).toNat (by omega)) (hP (t.v ((k + 2) % 3)).toNat (by omega)) hp) (fun _ h => nomatch h) ?_
   refine LJ_y rfl rfl (YJ_bin rfl rfl rfl) ?_
   refine LJ_val (v := .bool (decide (0 < A2 (ptAt pts (t.v ((k + 1) % 3))).1 (ptAt pts (t.v ((k + 1) % 3))).2 (ptAt pts (t.v ((k + 2) % 3))).1 (ptAt pts (t.v ((k + 2) % 3))).2 p1 p2))) (congrArg Value.bool (decide_eq_decide.2 sgn_gt0)) ?_
   refine LJ_y rfl rfl (YJ_move rfl) ?_
   refine LJ_boolC (fun h53 => ?_) (fun h53 => ?_)
   ·simp only [decide_eq_true_eq] at h53
    refine LJ_skip rfl rfl ?_
    refine LJ_skip rfl rfl ?_
    refine LJ_skip rfl rfl ?_
    refine LJ_skip rfl rfl ?_
    refine LJ_y rfl rfl (YJ_pickT rfl rfl) ?_
    refine LJ_y rfl rfl (YJ_assign rfl) ?_
    refine LJ_nil ?_
    refine QJ_then ?_
    refine CJ_ret ?_
    refine QJ_in_ret ?_
    refine QJ_then_ret ?_
    refine QJ_then_ret ?_
    refine QJ_in_ret ?_
    refine QJ_then_ret ?_
    refine QJ_fin (.inl rfl) (μ' := []) (μr := _) (φ' := []) (res_tmp rfl rfl) (List.Perm.refl _) (fun _ h => nomatch h) ?_
    exact ⟨congrArg Value.bool (by rw [cfB_at hk3 h25 hno]; unfold cfG; rw [decide_eq_true h53]; rfl), rfl, rfl⟩
   ·simp only [decide_eq_false_iff_not] at h53
    refine LJ_y rfl rfl (YJ_loadN (vs := [_, _]) rfl tyi_23 m3 rfl rfl) ?_
    refine LJ_y rfl rfl (YJ_loadN (vs := [_, _]) rfl tyi_23 m0 rfl rfl) ?_
    refine LJ_y rfl rfl (YJ_loadN (vs := [_, _]) rfl tyi_23 m1 rfl rfl) ?_
    refine LJ_call0 rfl rfl rfl rfl rfl (between_c hp (hP (t.v ((k + 1) % 3)).toNat (by omega)) (hP (t.v ((k + 2) % 3)).toNat (by omega))) (fun _ h => nomatch h) ?_
    refine LJ_y rfl rfl (YJ_pickF rfl rfl) ?_
    refine LJ_y rfl rfl (YJ_assign rfl) ?_
    refine LJ_nil ?_
    refine QJ_then ?_
    refine CJ_ret ?_
    refine QJ_in_ret ?_
    refine QJ_then_ret ?_
    refine QJ_then_ret ?_
    refine QJ_in_ret ?_
    refine QJ_then_ret ?_
    refine QJ_fin (.inl rfl) (μ' := []) (μr := _) (φ' := []) (res_tmp rfl rfl) (List.Perm.refl _) (fun _ h => nomatch h) ?_
    exact ⟨congrArg Value.bool (by rw [cfB_at hk3 h25 hno]; unfold cfG; rw [decide_eq_false h53]; rfl), rfl, rfl⟩
 ·simp only [decide_eq_false_iff_not] at h20
  have hk3 : 3 = k := by omega
  subst hk3
  have hr0 : 0 ≤ t.v0 ∧ t.v0 < pts.length := hv.2 hno 0 (by decide)
  have hr1 : 0 ≤ t.v1 ∧ t.v1 < pts.length := hv.2 hno 1 (by decide)
  have hr2 : 0 ≤ t.v2 ∧ t.v2 < pts.length := hv.2 hno 2 (by decide)
  refine CJ_exit ?_
  refine QJ_then_exit ?_
  refine QJ_then_exit ?_
  refine QJ_in_exit ?_
  refine QJ_then ?_
  refine CJ_seq ?_
  refine CJ_regD mix (by kernel_rfl) (fun _ _ _ _ _ h => h) _ _ (fun _ h => h) (fun _ h => h) ?_
  refine AJ_y 0 rfl (by kernel_rfl) (by kernel_rfl) rfl rfl (YJ_move rfl) ?_
  refine AJ_y 1 rfl (by kernel_rfl) (by kernel_rfl) rfl rfl (YJ_nilCheck rfl) ?_
  refine AJ_y 2 rfl (by kernel_rfl) (by kernel_rfl) rfl rfl (YJ_fieldOwn rfl fld_57_0 rfl) ?_
  refine AJ_y 3 rfl (by kernel_rfl) (by kernel_rfl) rfl rfl (YJ_loadFactP (A := some ⟨B, 0, none⟩) (j := 0) rfl rfl tyi_26 m0 rfl) ?_
  refine AJ_y 4 rfl (by kernel_rfl) (by kernel_rfl) rfl rfl (YJ_ixArr rfl rfl arrt_34 (by omega) (by omega) rfl) ?_
  refine AJ_y 5 rfl (by kernel_rfl) (by kernel_rfl) rfl rfl (YJ_loadL rfl tyi_3 m0 rfl) ?_
  refine AJ_y 6 rfl (by kernel_rfl) (by kernel_rfl) rfl rfl (YJ_ixFact rfl rfl elt_26 m1 (by decide) (by omega) (by omega) (by omega)) ?_
  refine AJ_y 7 rfl (by kernel_rfl) (by kernel_rfl) rfl rfl (YJ_loadFactN (vs := [_, _]) (xs := ptCells pts) rfl tyi_23 m1 (ptCells_get (i := (t.v0).toNat) (by omega)) rfl) ?_
  refine AJ_y 8 rfl (by kernel_rfl) (by kernel_rfl) rfl rfl (YJ_move rfl) ?_
  refine AJ_y 9 rfl (by kernel_rfl) (by kernel_rfl) rfl rfl (YJ_nilCheck rfl) ?_
  refine AJ_y 10 rfl (by kernel_rfl) (by kernel_rfl) rfl rfl (YJ_fieldOwn rfl fld_57_0 rfl) ?_
  refine AJ_y 11 rfl (by kernel_rfl) (by kernel_rfl) rfl rfl (YJ_loadFactP (A := some ⟨B, 0, none⟩) (j := 0) rfl rfl tyi_26 m0 rfl) ?_
  refine AJ_y 12 rfl (by kernel_rfl) (by kernel_rfl) rfl rfl (YJ_ixArr rfl rfl arrt_34 (by omega) (by omega) rfl) ?_
  refine AJ_y 13 rfl (by kernel_rfl) (by kernel_rfl) rfl rfl (YJ_loadL rfl tyi_3 m0 rfl) ?_
  refine AJ_y 14 rfl (by kernel_rfl) (by kernel_rfl) rfl rfl (YJ_ixFact rfl rfl elt_26 m1 (by decide) (by omega) (by omega) (by omega)) ?_
  refine AJ_y 15 rfl (by kernel_rfl) (by kernel_rfl) rfl rfl (YJ_loadFactN (vs := [_, _]) (xs := ptCells pts) rfl tyi_23 m1 (ptCells_get (i := (t.v1).toNat) (by omega)) rfl) ?_
  refine AJ_y 16 rfl (by kernel_rfl) (by kernel_rfl) rfl rfl (YJ_move rfl) ?_
  refine AJ_y 17 rfl (by kernel_rfl) (by kernel_rfl) rfl rfl (YJ_nilCheck rfl) ?_
  refine AJ_y 18 rfl (by kernel_rfl) (by kernel_rfl) rfl rfl (YJ_fieldOwn rfl fld_57_0 rfl) ?_
  refine AJ_y 19 rfl (by kernel_rfl) (by kernel_rfl) rfl rfl (YJ_loadFactP (A := some ⟨B, 0, none⟩) (j := 0) rfl rfl tyi_26 m0 rfl) ?_
  refine AJ_y 20 rfl (by kernel_rfl) (by kernel_rfl) rfl rfl (YJ_ixArr rfl rfl arrt_34 (by omega) (by omega) rfl) ?_
  refine AJ_y 21 rfl (by kernel_rfl) (by kernel_rfl) rfl rfl (YJ_loadL rfl tyi_3 m0 rfl) ?_
  refine AJ_y 22 rfl (by kernel_rfl) (by kernel_rfl) rfl rfl (YJ_ixFact rfl rfl elt_26 m1 (by decide) (by omega) (by omega) (by omega)) ?_
  refine AJ_y 23 rfl (by kernel_rfl) (by kernel_rfl) rfl rfl (YJ_loadFactN (vs := [_, _]) (xs := ptCells pts) rfl tyi_23 m1 (ptCells_get (i := (t.v2).toNat) (by omega)) rfl) ?_
  refine AJ_y 24 rfl (by kernel_rfl) (by kernel_rfl) rfl rfl (YJ_loadN (vs := [_, _]) rfl tyi_23 m1 rfl rfl) ?_
  refine AJ_call0 25 rfl (by kernel_rfl) rfl rfl rfl rfl rfl (circle_c (hP (t.v0).toNat (by omega)) (hP (t.v1).toNat (by omega)) (hP (t.v2).toNat (by omega)) hp) (fun _ h => nomatch h) ?_
  refine AJ_y 26 rfl (by kernel_rfl) (by kernel_rfl) rfl rfl (YJ_bin rfl rfl rfl) ?_
  refine AJ_y 27 rfl (by kernel_rfl) (by kernel_rfl) rfl rfl (YJ_assign rfl) ?_
  refine AJ_done (by kernel_rfl) ?_
  refine QJ_then ?_
  refine CJ_ret ?_
  refine QJ_fin (.inl rfl) (μ' := []) (μr := _) (φ' := []) (res_tmp rfl rfl) (List.Perm.refl _) (fun _ h => nomatch h) ?_
  exact ⟨congrArg Value.bool (by rw [cfB_no hno]; exact decide_eq_decide.2 sgn_gt0), rfl, rfl⟩
def acr (t : Tr) (a b : Int) : Int := if t.v 0 ≠ a ∧ t.v 0 ≠ b then t.n 0 else if t.v 1 ≠ a ∧ t.v 1 ≠ b then t.n 1 else if t.v 2 ≠ a ∧ t.v 2 ≠ b then t.n 2 else -1
theorem acr_at {t : Tr} {a b : Int} {k : Nat} (hk : k < 3) (h : t.v k ≠ a ∧ t.v k ≠ b) (hno : ∀ j, j < k → ¬ (t.v j ≠ a ∧ t.v j ≠ b)) : acr t a b = t.n k := by
 unfold acr
 match k, hk with
 | 0, _ => rw [if_pos h]
 | 1, _ => rw [if_neg (hno 0 (by decide)), if_pos h]
 | 2, _ => rw [if_neg (hno 0 (by decide)), if_neg (hno 1 (by decide)), if_pos h]
theorem acr_no {t : Tr} {a b : Int} (hno : ∀ j, j < 3 → ¬ (t.v j ≠ a ∧ t.v j ≠ b)) : acr t a b = -1 := by
 unfold acr
 rw [if_neg (hno 0 (by decide)), if_neg (hno 1 (by decide)), if_neg (hno 2 (by decide))]
set_option maxRecDepth 100000 in
set_option maxHeartbeats 1000000 in
theorem across_c {B : Nat} {h : Mh} {pts : List (Int × Int)} {tris : List Tr} {t : Tr} {n : Nat} {a b : Int} (ht : tris[n]? = some t) (hlen : tris.length ≤ 1073741824) : Tri Try.prog 70 [.pointer (some ⟨B, 0, none⟩), .int .i64 (n : Nat), .int .i64 a, .int .i64 b] [] (meshFs B h pts tris) (Ret0 (.int .i64 (acr t a b))) := by
 refine Tri_of (N := 40) Try.func70 rfl ent_70 rfl rfl ?_
 intro w0 S0 T0
 show CJ _ _ _ [(0, _), (1, _), (2, _), (3, _)] _ _
 have htl := (List.getElem?_eq_some_iff.1 ht).1
 refine CJ_seq ?_
 refine CJ_reg ?_
 refine LJ_y rfl rfl (YJ_assign rfl) ?_
 refine LJ_nil ?_
 refine QJ_then ?_
 refine CJ_seq ?_
 refine CJ_reg ?_
 refine LJ_y rfl rfl (YJ_move rfl) ?_
 refine LJ_y rfl rfl (YJ_nilCheck rfl) ?_
 refine LJ_y rfl rfl (YJ_fieldOwn rfl fld_57_1 rfl) ?_
 refine LJ_y rfl rfl (YJ_loadFactP (A := some ⟨B, 0, none⟩) (j := 1) rfl rfl tyi_54 m0 rfl) ?_
 refine LJ_y rfl rfl (YJ_move rfl) ?_
 refine LJ_y rfl rfl (YJ_ixFact rfl rfl elt_54 m2 (by decide) (by omega) (by omega) (by omega)) ?_
 refine LJ_y rfl rfl (YJ_loadFactN (vs := [.int .i64 t.v0, .int .i64 t.v1, .int .i64 t.v2, .int .i64 t.n0, .int .i64 t.n1, .int .i64 t.n2, .bool t.f0, .bool t.f1, .bool t.f2]) (xs := trCells tris) rfl tyi_37 m2 (trCells_row (cast_idx ht)) rfl) ?_
 refine LJ_alloc (cs := #[_, _, _, _, _, _, _, _, _]) rfl rfl zer_37 rfl ?_
 intro b1
 refine LJ_store (cs' := #[.int .i64 t.v0, .int .i64 t.v1, .int .i64 t.v2, .int .i64 t.n0, .int .i64 t.n1, .int .i64 t.n2, .bool t.f0, .bool t.f1, .bool t.f2]) (μ' := [_]) 0 rfl rfl rfl rfl tyi_37 rfl (Nat.le_of_ble_eq_true rfl) rfl (wr_all rfl) rfl ?_
 refine LJ_nil ?_
 refine QJ_then ?_
 refine CJ_seq ?_
 refine CJ_seq ?_
 refine CJ_reg ?_
 refine LJ_y rfl rfl (YJ_move rfl) ?_
 refine LJ_nil ?_
 refine QJ_then ?_
 refine CJ_block ?_
 refine CJ_loopF (F := fun (i : Nat) => ⟨[(2, .int .i64 a), (3, .int .i64 b), (9, .pointer (some ⟨b1, 0, none⟩)), (18, .int .i64 (i : Nat))], [], []⟩) (I := fun (i : Nat) => i ≤ 3 ∧ ∀ j, j < i → ¬ (t.v j ≠ a ∧ t.v j ≠ b)) (m := fun (i : Nat) => 3 - i) 0 (μr := [_]) ⟨Nat.zero_le _, fun _ h => absurd h (Nat.not_lt_zero _)⟩ (And.intro rfl (And.intro rfl (And.intro rfl (And.intro rfl (trivial))))) (permI [] rfl) (fun _ h => nomatch h) ?_
 rintro k ⟨hk, hno⟩
 try dsimp only at hk
 try dsimp only at hno
 show CJ _ _ _ [(2, .int .i64 a), (3, .int .i64 b), (9, .pointer (some ⟨b1, 0, none⟩)), (18, .int .i64 (k : Nat))] (_ :: _) _
 refine CJ_seq ?_
 refine CJ_reg ?_
 refine LJ_y rfl rfl (YJ_bin rfl rfl rfl) ?_
 refine LJ_nil ?_
 refine QJ_then ?_
 refine CJ_seq ?_
 refine CJ_cond rfl (fun h19 => ?_) (fun h19 => ?_)
 ·simp only [decide_eq_true_eq] at h19
  have hk3 : k < 3 := by omega
  refine CJ_skip ?_
  refine QJ_then ?_
  refine CJ_seq ?_
  refine CJ_block ?_
  refine CJ_seq ?_
  refine CJ_reg ?_
  refine LJ_y rfl rfl (YJ_move rfl) ?_
  refine LJ_y rfl rfl (YJ_assign rfl) ?_
  refine LJ_nil ?_
  refine QJ_then ?_
  refine CJ_seq ?_
  refine CJ_reg ?_
  refine LJ_y rfl rfl (YJ_move rfl) ?_
  refine LJ_y rfl rfl (YJ_fieldOwn rfl fld_37_0 rfl) ?_
  refine LJ_y rfl rfl (YJ_ixArr rfl rfl arrt_34 (by omega) (by omega) rfl) ?_
  refine LJ_y rfl rfl (YJ_load1 rfl tyi_3 m0 (v_get (t := t) hk3)) ?_
  refine LJ_y rfl rfl (YJ_move rfl) ?_
  refine LJ_y rfl rfl (YJ_bin rfl rfl rfl) ?_
  refine LJ_y rfl rfl (YJ_move rfl) ?_
  refine LJ_boolC (fun h27 => ?_) (fun h27 => ?_)
  ·simp only [decide_eq_false_iff_not, Bool.not_eq_true'] at h27
   refine LJ_y rfl rfl (YJ_move rfl) ?_
   refine LJ_y rfl rfl (YJ_fieldOwn rfl fld_37_0 rfl) ?_
   refine LJ_y rfl rfl (YJ_ixArr rfl rfl arrt_34 (by omega) (by omega) rfl) ?_
   refine LJ_y rfl rfl (YJ_load1 rfl tyi_3 m0 (v_get (t := t) hk3)) ?_
   refine LJ_y rfl rfl (YJ_move rfl) ?_
   refine LJ_y rfl rfl (YJ_bin rfl rfl rfl) ?_
   refine LJ_y rfl rfl (YJ_pickT rfl rfl) ?_
   refine LJ_nil ?_
   refine QJ_then ?_
   refine CJ_cond rfl (fun h34 => ?_) (fun h34 => ?_)
   ·simp only [decide_eq_false_iff_not, Bool.not_eq_true'] at h34
    refine CJ_seq ?_
    refine CJ_reg ?_
    refine LJ_y rfl rfl (YJ_move rfl) ?_
    refine LJ_y rfl rfl (YJ_fieldOwn rfl fld_37_1 rfl) ?_
    refine LJ_y rfl rfl (YJ_ixArr rfl rfl arrt_34 (by omega) (by omega) rfl) ?_
    refine LJ_y rfl rfl (YJ_load1 rfl tyi_3 m0 (na_get (t := t) hk3)) ?_
    refine LJ_y rfl rfl (YJ_assign rfl) ?_
    refine LJ_nil ?_
    refine QJ_then ?_
    refine CJ_ret ?_
    refine QJ_in_ret ?_
    refine QJ_then_ret ?_
    refine QJ_then_ret ?_
    refine QJ_in_ret ?_
    refine QJ_then_ret ?_
    refine QJ_fin (.inl rfl) (μ' := []) (μr := _) (φ' := []) (res_tmp rfl rfl) (List.Perm.refl _) (fun _ h => nomatch h) ?_
    exact ⟨congrArg (Value.int .i64) (acr_at hk3 ⟨h27, h34⟩ hno).symm, rfl, rfl⟩
   ·simp only [decide_eq_true_eq, Bool.not_eq_false'] at h34
    refine CJ_skip ?_
    refine QJ_in_normal ?_
    refine QJ_then ?_
    refine CJ_reg ?_
    refine LJ_y rfl rfl (YJ_bin rfl rfl (iop_add (by omega))) ?_
    refine LJ_y rfl rfl (YJ_move rfl) ?_
    refine LJ_nil ?_
    refine QJ_roundF (F := fun (i : Nat) => ⟨[(2, .int .i64 a), (3, .int .i64 b), (9, .pointer (some ⟨b1, 0, none⟩)), (18, .int .i64 (i : Nat))], [], []⟩) (I := fun (i : Nat) => i ≤ 3 ∧ ∀ j, j < i → ¬ (t.v j ≠ a ∧ t.v j ≠ b)) (m := fun (i : Nat) => 3 - i) (i := k) (k + 1) (μd := []) ⟨by omega, fun j hj => (Nat.lt_succ_iff_lt_or_eq.1 hj).elim (hno j) (fun e => by rw [e]; exact fun q => q.2 h34)⟩ (by omega) (And.intro rfl (And.intro rfl (And.intro rfl (And.intro rfl (trivial))))) (permI [] rfl) (fun _ h => nomatch h) (fun _ h => h)
  ·simp only [decide_eq_true_eq, Bool.not_eq_false'] at h27
   refine LJ_skip rfl rfl ?_
   refine LJ_skip rfl rfl ?_
   refine LJ_skip rfl rfl ?_
   refine LJ_skip rfl rfl ?_
   refine LJ_skip rfl rfl ?_
   refine LJ_skip rfl rfl ?_
   refine LJ_y rfl rfl (YJ_pickF rfl rfl) ?_
   refine LJ_nil ?_
   refine QJ_then ?_
   refine CJ_condF rfl ?_
   refine CJ_skip ?_
   refine QJ_in_normal ?_
   refine QJ_then ?_
   refine CJ_reg ?_
   refine LJ_y rfl rfl (YJ_bin rfl rfl (iop_add (by omega))) ?_
   refine LJ_y rfl rfl (YJ_move rfl) ?_
   refine LJ_nil ?_
   refine QJ_roundF (F := fun (i : Nat) => ⟨[(2, .int .i64 a), (3, .int .i64 b), (9, .pointer (some ⟨b1, 0, none⟩)), (18, .int .i64 (i : Nat))], [], []⟩) (I := fun (i : Nat) => i ≤ 3 ∧ ∀ j, j < i → ¬ (t.v j ≠ a ∧ t.v j ≠ b)) (m := fun (i : Nat) => 3 - i) (i := k) (k + 1) (μd := []) ⟨by omega, fun j hj => (Nat.lt_succ_iff_lt_or_eq.1 hj).elim (hno j) (fun e => by rw [e]; exact fun q => q.1 h27)⟩ (by omega) (And.intro rfl (And.intro rfl (And.intro rfl (And.intro rfl (trivial))))) (permI [] rfl) (fun _ h => nomatch h) (fun _ h => h)
 ·simp only [decide_eq_false_iff_not] at h19
  have hk3 : 3 = k := by omega
  subst hk3
  refine CJ_exit ?_
  refine QJ_then_exit ?_
  refine QJ_then_exit ?_
  refine QJ_in_exit ?_
  refine QJ_then ?_
  refine CJ_seq ?_
  refine CJ_reg ?_
  refine LJ_y rfl rfl (YJ_assign rfl) ?_
  refine LJ_nil ?_
  refine QJ_then ?_
  refine CJ_ret ?_
  refine QJ_fin (.inl rfl) (μ' := []) (μr := _) (φ' := []) (res_tmp rfl rfl) (List.Perm.refl _) (fun _ h => nomatch h) ?_
  exact ⟨congrArg (Value.int .i64) (acr_no hno).symm, rfl, rfl⟩
end Go.Proofs.Ytbanlhlggkdanaa
namespace Go.Proofs.Ytbanlhlggkdanaa
open Go.RowKit
theorem uint_3 : Try.prog.underlying 3 = some (.int .i64) := by kernel_rfl
structure GS (L : MI) (S : List Int) : Prop where
 pm : (L.map (·.1)).Perm S
 nd : S.Nodup
 vl : ∀ e, e ∈ L → e.2.1 = 1
theorem GS.kn {L : MI} {S : List Int} (h : GS L S) : (L.map (·.1)).Nodup := h.pm.nodup_iff.2 h.nd
theorem GS.get {L : MI} {S : List Int} (h : GS L S) (x : Int) : (mget x L).getD 0 = if x ∈ S then 1 else 0 := by
 by_cases hx : x ∈ S
 ·rw [if_pos hx]
  obtain ⟨e, he, hex⟩ := List.mem_map.1 (h.pm.mem_iff.2 hx)
  have := mget_of_mem h.kn he
  rw [hex, h.vl e he] at this
  rw [this]
  rfl
 ·rw [if_neg hx, mget_none (fun q => hx (h.pm.mem_iff.1 q))]
  rfl
theorem GS.put {L : MI} {S : List Int} (h : GS L S) {x : Int} (hx : ¬ x ∈ S) (c : Nat) : GS (mput x 1 L c) (S ++ [x]) := by
 have hk : ¬ x ∈ L.map (·.1) := fun q => hx (h.pm.mem_iff.1 q)
 have e : mput x (1 : Int) L c = L ++ [(x, 1, c)] := mput_new hk
 rw [e]
 refine ⟨?_, ?_, fun y hy => ?_⟩
 ·rw [List.map_append]
  exact h.pm.append_right _
 ·rw [List.nodup_append]
  refine ⟨h.nd, by simp, fun a ha b hb => ?_⟩
  rw [List.mem_singleton] at hb
  subst hb
  exact fun q => hx (q ▸ ha)
 ·rcases List.mem_append.1 hy with hy | hy
  ·exact h.vl y hy
  ·rw [List.mem_singleton] at hy; subst hy; rfl
theorem GS.len {L : MI} {S : List Int} (h : GS L S) : L.length = S.length := by
 rw [← h.pm.length_eq, List.length_map]
def goN (tris : List Tr) (n : Nat) : List Int := ((List.range n).filter (fun q => match tris[q]? with | some t => decide (t.v0 = -2) | none => false)).map (fun q => ((q : Nat) : Int))
theorem goN_mem {tris : List Tr} {n : Nat} {x : Int} : x ∈ goN tris n ↔ ∃ (q : Nat) (t : Tr), x = q ∧ q < n ∧ tris[q]? = some t ∧ t.v0 = -2 := by
 unfold goN
 rw [List.mem_map]
 constructor
 ·rintro ⟨q, hq, rfl⟩
  rw [List.mem_filter, List.mem_range] at hq
  cases ht : tris[q]? with
  | none => rw [ht] at hq; simp at hq
  | some t => rw [ht] at hq; exact ⟨q, t, rfl, hq.1, ht, of_decide_eq_true hq.2⟩
 ·rintro ⟨q, t, rfl, hq, ht, h0⟩
  refine ⟨q, ?_, rfl⟩
  rw [List.mem_filter, List.mem_range, ht]
  exact ⟨hq, by simpa using h0⟩
structure CK (n a : Nat) (C : MD) (S : List Int) : Prop where
 len : C.tris.length = n
 ats : C.ats.length = a
 pm : C.free.Perm S
 nd : S.Nodup
 fr : ∀ k, k ∈ S → 0 ≤ k ∧ k < n
theorem CK.drop {n a : Nat} {C : MD} {S : List Int} (h : CK n a C S) {t : Nat} (ht : t < n) (hS : ¬ (t : Int) ∈ S) : CK n a (C.drop t) (S ++ [(t : Int)]) := by
 refine ⟨?_, h.ats, ?_, ?_, fun k hk => ?_⟩
 ·show (C.tris.set t Tr.gone).length = n
  rw [List.length_set]; exact h.len
 ·exact h.pm.append_right _
 ·rw [List.nodup_append]
  refine ⟨h.nd, by simp, fun x hx b hb => ?_⟩
  rw [List.mem_singleton] at hb
  subst hb
  exact fun q => hS (q ▸ hx)
 ·rcases List.mem_append.1 hk with hk | hk
  ·exact h.fr k hk
  ·rw [List.mem_singleton] at hk; subst hk; omega
theorem CK.make {n a : Nat} {C : MD} {S : List Int} (h : CK n a C S) (h0 : 0 < S.length) (x y z : Int) : ∃ k : Nat, C.nextN = (k : Int) ∧ k < n ∧ (k : Int) ∈ S ∧ (C.make x y z).tris[k]? = some (Tr.new x y z) ∧ CK n a (C.make x y z) (S.erase (k : Int)) := by
 have hne : C.free ≠ [] := by
  intro q
  have := h.pm.length_eq
  rw [q] at this
  simp at this
  omega
 obtain ⟨kk, hkk⟩ : ∃ kk, C.free.getLast? = some kk := ⟨_, List.getLast?_eq_some_getLast hne⟩
 have hm : kk ∈ C.free := List.mem_of_getLast? hkk
 obtain ⟨f0, f1⟩ := h.fr kk (h.pm.mem_iff.1 hm)
 have e1 : C.nextN = kk := by unfold MD.nextN; rw [hkk]
 have e2 : (C.make x y z).tris = C.tris.set kk.toNat (Tr.new x y z) := by unfold MD.make; rw [hkk]
 have e3 : (C.make x y z).free = C.free.dropLast := rfl
 have e4 : (C.make x y z).ats.length = C.ats.length := by unfold MD.make; simp only [setAt_len]
 refine ⟨kk.toNat, by rw [e1]; omega, by omega, by rw [show ((kk.toNat : Nat) : Int) = kk by omega]; exact h.pm.mem_iff.1 hm, ?_, ?_⟩
 ·rw [e2, List.getElem?_set_self (by have := h.len; omega)]
 ·rw [show ((kk.toNat : Nat) : Int) = kk by omega]
  refine ⟨by rw [e2, List.length_set]; exact h.len, by rw [e4]; exact h.ats, ?_, h.nd.erase kk, fun k hk => h.fr k (List.mem_of_mem_erase hk)⟩
  rw [e3]
  have e5 : C.free = C.free.dropLast ++ [kk] := by
   have := List.dropLast_concat_getLast hne
   rw [List.getLast?_eq_some_getLast hne] at hkk
   rw [← this, Option.some.inj hkk]
   simp
  have hp : (kk :: C.free.dropLast).Perm S := by
   refine List.Perm.trans ?_ h.pm
   rw [e5]
   simpa using (List.perm_append_singleton kk C.free.dropLast).symm
  have := hp.erase kk
  simpa using this
section
variable {F : MapI} {W H : Nat} {f : Nat → Bool} {M : MD} {V : List (Nat × T3)}
theorem GM.ck (h : GM F W H f M V) : CK M.tris.length M.ats.length M (goN M.tris M.tris.length) := by
 have hm : ∀ k : Int, k ∈ M.free ↔ k ∈ goN M.tris M.tris.length := by
  intro k
  rw [goN_mem]
  constructor
  ·intro hk
   have hr := h.fr k hk
   obtain ⟨t, ht, htv⟩ := vw_iff.1 (h.gn k hk)
   refine ⟨k.toNat, t, by omega, by omega, ht, ?_⟩
   exact congrArg Prod.fst htv
  ·rintro ⟨q, t, rfl, hq, ht, h0⟩
   rcases h.al q _ (vw_iff.2 ⟨t, ht, rfl⟩) with p | p
   ·exact p
   ·exact absurd h0 (h.tg.ne2 p (by decide : 0 < 3))
 have hnd : (goN M.tris M.tris.length).Nodup := by
  unfold goN
  refine List.Nodup.sublist ((List.filter_sublist).map _) ?_
  unfold List.Nodup
  rw [List.pairwise_map]
  exact (List.nodup_range).imp (fun {a b} hab q => hab (by omega))
 refine ⟨rfl, rfl, (List.perm_ext_iff_of_nodup h.fn hnd).2 hm, hnd, fun k hk => h.fr k ((hm k).2 hk)⟩
theorem GM.four (h : GM F W H f M V) (hW : W = 1 ∨ W = 2) (hH : H = 1 ∨ H = 2) : 4 ≤ M.ats.length ∧ 0 < M.tris.length := by
 refine ⟨?_, ?_⟩
 ·rw [h.ats]
  rcases hW with rfl | rfl <;> rcases hH with rfl | rfl <;> decide
 ·obtain ⟨v, hv, _⟩ := h.tg.gh
  obtain ⟨x, hx, rfl⟩ := List.mem_map.1 hv
  obtain ⟨t, ht, htv⟩ := h.lm.get hx
  have := (List.getElem?_eq_some_iff.1 ht).1
  omega
end
end Go.Proofs.Ytbanlhlggkdanaa
namespace Go.Proofs.Ytbanlhlggkdanaa
open Go.RowKit
open Go.Sort
def fldt (P : Program) (s : TypeId) (i : Nat) : Option (Nat × TypeId) := match P.underlying s with
 | some (.struct fs) => fs[i]?.map fun f => (f.offset, f.type)
 | _ => none
section
variable {E : Env} {Q : Qt} {σ : List (Nat × Value)} {μ φ : List Res} {ops : Array Oper} {rest : List Oper} {cd : Code} {ty : TypeId}
theorem YJ_fieldV {s e : TypeId} {x : Operand} {i off : Nat} {cs : Array Value} {v : Value} (hx : oev σ x = some (.agg cs)) (hf : fldt E.P s i = some (off, e)) (ht : tyi E.P e = some (false, 1)) (hv : lget cs.toList off = some v) : YJ E (.field s x i) ty σ μ φ v := fun ac w _ _ _ _ hs _ _ => by
 unfold fldt at hf
 cases hu : E.P.underlying s with
 | none => rw [hu] at hf; simp at hf
 | some d =>
  rw [hu] at hf
  cases d <;> simp at hf
  rename_i fs
  obtain ⟨f, hf1, hf2, hf3⟩ := hf
  simp only [execOp, hs.ev hx]
  simp [Instr.field, asAgg, run_underlying hu, hf1, hf2, hf3, run_part1 ht hv]
theorem cellsR_row {b n size : Nat} {cs : Array Value} {e : TypeId} (hn : cs.size = n * size) (hm : n ≤ maxLen) : ∀ w S, (cellsR b cs e).p w S → (rowR e size (some ⟨b, 0, none⟩) n n cs.toList).p w S := fun w S ⟨h1, h2⟩ =>
 ⟨by rw [Array.length_toList, hn], .inr ⟨b, cs, rfl, h2, h1, Nat.le_refl _, hm, hn, by rw [List.take_of_length_le (by rw [Array.length_toList, hn]; exact Nat.le_refl _)]⟩⟩
end
theorem ent_sortI : Enter Try.prog 71 = true := by kernel_rfl
theorem put_ints (zs : List Int) (cur : Array Value) (h : zs.length ≤ cur.size) : (putCells (Value.int .i64) 0 zs.toArray cur).size = cur.size ∧ (putCells (Value.int .i64) 0 zs.toArray cur).toList.take zs.length = Iv zs := by
 refine ⟨by simp [putCells], List.ext_getElem? (fun t => ?_)⟩
 rw [List.getElem?_take]
 split
 ·rename_i ht
  rw [Array.getElem?_toList]
  unfold putCells
  rw [Array.getElem?_mapIdx, Array.getElem?_eq_getElem (by omega), Option.map_some, if_pos ⟨Nat.zero_le _, by simpa using ht⟩, Nat.sub_zero, Iv, List.getElem?_map, List.getElem?_eq_getElem ht]
  rw [getElem!_pos zs.toArray t (by simpa using ht)]
  simp
 ·rename_i ht
  rw [List.getElem?_eq_none (by rw [Iv, List.length_map]; omega)]
theorem sortI_tri {A : Option Addr} {c n : Nat} {zs : List Int} (hn : zs.length = n) (h0 : 0 < n) (h1 : n ≤ 1000000) :
  Tri Try.prog 71 [.slice A n c] [rowR 3 1 A n c (Iv zs)] [] (RetX (fun _ : Unit => True) (fun _ => .tuple #[]) (fun _ => [rowR 3 1 A n c (Iv (zs.mergeSort fun x y => decide (x ≤ y)))]) (fun _ => [])) := by
 subst hn
 refine ⟨ent_sortI, fun w S T hS hT hd hTl => ?_⟩
 obtain ⟨S1, S2, ⟨hx, hrow⟩, hn, _, hs⟩ := hS
 rcases hrow with ⟨_, hz, _⟩ | ⟨g, cur, rfl, hg, hh, hnc, hcm, hsz, htk⟩
 ·omega
 rw [Nat.mul_one] at htk hsz
 have hgl : g < w.heap.size := (Array.getElem?_eq_some_iff.1 hh).1
 have hSg : ∀ k, S k ↔ k = g := fun k => by
  rw [hs k, hg k]
  exact ⟨fun h => h.resolve_right (hn k), .inl⟩
 have hH : Holds (Value.int .i64) w g 0 zs.toArray := fun j hj => by
  have hj : j < zs.length := by simpa using hj
  refine ⟨?_, frozen_of_row w g _ cur 3 hh⟩
  rw [cell_of_row w g _ cur 3 (0, 0) hh, Nat.zero_add]
  have e1 : (Iv zs)[j]? = cur[j]? := by rw [← htk, List.getElem?_take, if_pos hj, Array.getElem?_toList]
  rw [← e1, Iv, List.getElem?_map, List.getElem?_eq_getElem hj, getElem!_pos zs.toArray j (by simpa using hj)]
  simp
 refine (Try.slices_Sort_int g 0 c zs w hH hgl (by omega)).mono ?_
 rintro e w' ⟨rfl, n, os, rfl⟩
 have hml : (zs.mergeSort fun x y => decide (x ≤ y)).length = zs.length := (List.mergeSort_perm _ _).length_eq
 obtain ⟨zz, hzz⟩ : ∃ zz, zs.mergeSort (fun x y => decide (x ≤ y)) = zz := ⟨_, rfl⟩
 rw [hzz] at hml ⊢
 obtain ⟨c1, c2⟩ := put_ints zz cur (by omega)
 have hsz2 : (putRow (Value.int .i64) (Sort.ahead w n) g 0 zz.toArray).heap.size = w.heap.size := by simp [putRow, mapBlock, Sort.ahead]
 have hg' : (grow (putRow (Value.int .i64) (Sort.ahead w n) g 0 zz.toArray) os).heap[g]? = some (.cells (putCells (Value.int .i64) 0 zz.toArray cur) 3 (0, 0)) := by
  rw [heap_grow_old _ _ (by rw [hsz2]; exact hgl)]
  simp only [putRow, mapBlock, Sort.ahead, Array.getElem?_modify, if_true]
  rw [hh]
  rfl
 refine ⟨.tuple #[], [rowR 3 1 (some ⟨g, 0, none⟩) zs.length c (Iv zz)], [], rfl, ⟨(), trivial, rfl, rfl, rfl⟩, ⟨rfl, rfl, rfl, ?_, fun k hk hnk => ?_⟩, S, fun _ => False, ⟨S, fun _ => False, ⟨?_, .inr ⟨g, _, rfl, hSg, hg', hnc, hcm, ?_, ?_⟩⟩, fun _ h => h, fun _ _ h => h, fun k => by simp⟩, (fun _ h => nomatch h), fun _ _ h => h, fun k h => .inl h, fun _ h => h.elim, fun _ h => h.elim⟩
 ·rw [size_grow, hsz2]
  omega
 ·rw [heap_grow_old _ _ (by rw [hsz2]; exact hk)]
  simp only [putRow, mapBlock, Sort.ahead, Array.getElem?_modify]
  rw [if_neg (fun q => hnk ((hSg k).2 q.symm))]
 ·rw [Iv, List.length_map, hml, Nat.mul_one]
 ·rw [c1, hsz, Nat.mul_one]
 ·rw [Nat.mul_one, ← hml]
  exact c2
theorem index_gc {b o n : Nat} {xs : List Int} {x : Int} (hn : xs.length = n) (h0 : 0 < n) (h1 : n ≤ 1073741824) : Tri Try.prog 72 [.slice (some ⟨b, o, none⟩) n n, .int .i64 x] [] [sliceR 1 (some ⟨b, o, none⟩) n (Iv xs)] (Ret0 (.int .i64 (Lib.idxOf xs x))) := by
 refine Tri_of_callsF (by kernel_rfl) fun w T hF => ?_
 obtain ⟨S, hp, _⟩ := hF _ (.head _)
 have := Try.slices_Index_int b o n n xs x w (by omega) (by omega) (fun j hj => by
  have := sliceR.cell hp (j := j) (v := .int .i64 (xs.getD j 0)) (by rw [Iv, List.getElem?_map, List.getElem?_eq_getElem hj, List.getD_eq_getElem?_getD, List.getElem?_eq_getElem hj]; rfl)
  rw [show (adr (some ⟨b, o, none⟩) : Addr) = ⟨b, o, none⟩ from rfl, Addr.add_lit] at this
  exact this)
 rw [List.take_of_length_le (by omega)] at this
 exact this
theorem sub_n {g : Nat} {tris : List Tr} {u : Nat} {t : Tr} (ht : tris[u]? = some t) : ∀ w S, (sliceR 9 (some ⟨g, 0, none⟩) tris.length (trCells tris)).p w S → ∃ S', (sliceR 1 (some ⟨g, u * 9 + 3, none⟩) 3 (Iv [t.n0, t.n1, t.n2])).p w S' ∧ ∀ k, S' k → S k := by
 intro w S h
 refine ⟨S, ⟨rfl, ?_⟩, fun _ h => h⟩
 have hS := h.2
 have hul := (List.getElem?_eq_some_iff.1 ht).1
 rw [if_neg (by rw [trCells_len]; omega)] at hS
 obtain ⟨ad, e, h1, h2⟩ := hS
 obtain rfl : (⟨g, 0, none⟩ : Addr) = ad := Option.some.inj e
 rw [if_neg (by simp [Iv])]
 refine ⟨⟨g, u * 9 + 3, none⟩, rfl, h1, fun j v hj => ?_⟩
 have hj3 : j < 3 := by
  have := (List.getElem?_eq_some_iff.1 hj).1
  simpa [Iv] using this
 have := h2 (u * 9 + (3 + j)) v (by
  rw [trCells_n ht hj3]
  match j, hj3 with
  | 0, _ => exact hj
  | 1, _ => exact hj
  | 2, _ => exact hj)
 rw [Addr.add_lit] at this ⊢
 rw [show u * 9 + 3 + j = 0 + (u * 9 + (3 + j)) by omega]
 exact this
section
variable {E : Env} {Q : Qt} {σ : List (Nat × Value)} {μ φ : List Res} {ops : Array Oper} {rest : List Oper} {cd : Code} {B : Nat} {M : MD}
theorem OKm.freezeMeshT {w : World} (hm : OKm E (meshR B M :: μ) φ w) (h0 : 0 < M.tris.length) : ∃ h : Mh, (h.nf = M.free.length ∧ h.na = M.ats.length ∧ ∃ g, h.T = some ⟨g, 0, none⟩) ∧ OKm E μ (frzFs B M h ++ φ) w := by
 obtain ⟨⟨P, cP, T, cT, F, cF, A, cA⟩, h1⟩ := hm.openEx
 have h2 : OKm E (cellsR B #[.slice P M.pts.length cP, .slice T M.tris.length cT, .slice F M.free.length cF, .slice A M.ats.length cA] 57 ::
  rowR 23 2 P M.pts.length cP (ptCells M.pts) :: rowR 37 9 T M.tris.length cT (trCells M.tris) :: rowR 3 1 F M.free.length cF (Iv M.free) :: rowR 3 1 A M.ats.length cA (Iv M.ats) :: μ) φ w := h1
 have h3 := h2.freeze.addF (r' := sliceR 4 (some ⟨B, 0, none⟩) 1 [.slice P M.pts.length cP, .slice T M.tris.length cT, .slice F M.free.length cF, .slice A M.ats.length cA]) (.head _) (fun S h => cellsR_slice (n := 1) rfl w S h)
 have h4 := h3.freezeRow.freezeRow.freezeRow.freezeRow
 obtain ⟨g, hg, _⟩ := h2.rowSome (.tail _ (.tail _ (.head _))) h0
 refine ⟨⟨P, cP, T, cT, F, M.free.length, cF, A, M.ats.length, cA⟩, ⟨rfl, rfl, g, hg⟩, h4.weak (μr := []) (by simp) ?_⟩
 intro r hr
 simp only [frzFs, meshFs, List.cons_append, List.nil_append, List.mem_cons] at hr
 simp only [List.mem_cons]
 rcases hr with h | h | h | h | h | h
 ·exact .inr (.inr (.inr (.inr (.inl h))))
 ·exact .inr (.inr (.inr (.inl h)))
 ·exact .inr (.inr (.inl h))
 ·exact .inr (.inl h)
 ·exact .inl h
 ·exact .inr (.inr (.inr (.inr (.inr (.inr h)))))
theorem LJ_freezeMeshT (h0 : 0 < M.tris.length) (h : ∀ (hm : Mh) (g : Nat), hm.nf = M.free.length → hm.na = M.ats.length → hm.T = some ⟨g, 0, none⟩ → LJ E Q ops rest σ μ (frzFs B M hm ++ φ)) : LJ E Q ops rest σ (meshR B M :: μ) φ := fun a w ha hm => let ⟨x, ⟨h1, h2, g, hg⟩, h3⟩ := hm.freezeMeshT h0; h x g h1 h2 hg a w ha h3
end
end Go.Proofs.Ytbanlhlggkdanaa
namespace Go.Proofs.Ytbanlhlggkdanaa
open Go.RowKit
section
variable {E : Env} {Q : Qt} {σ : List (Nat × Value)} {μ φ : List Res}
theorem CJ_seqC {ι : Type} {F : ι → St} {I : ι → Prop} {x y : Code} (hx : CJ E (Exit.then (fun a w => ∃ i, I i ∧ OKa E (F i).σ a ∧ OKm E (F i).μ (F i).φ w) Q) x σ μ φ) (hy : ∀ i, I i → CJ E Q y (F i).σ (F i).μ (F i).φ) : CJ E Q (.seq x y) σ μ φ :=
 CJ_seq fun a w ha hm => wp_mono (hx a w ha hm) fun e a' w' q => by
  cases e with
  | normal =>
   obtain ⟨i, h1, h2, h3⟩ := q
   exact hy i h1 a' w' h2 h3
  | _ => exact q
theorem QJ_cut {ι : Type} {F : ι → St} {I : ι → Prop} (j : ι) {μr : List Res} (hI : I j) (hs : AllLk σ (F j).σ) (hp : List.Perm μ ((F j).μ ++ μr)) (hf : ∀ r, r ∈ (F j).φ → r ∈ φ) :
  QJ E (Exit.then (fun a w => ∃ i, I i ∧ OKa E (F i).σ a ∧ OKm E (F i).μ (F i).φ w) Q) .normal σ μ φ := fun _ _ ha hk => ⟨j, hI, ⟨ha.defs, ha.siz, ha.slots.weak hs⟩, hk.weak hp hf⟩
end
def cfN (pts : List (Int × Int)) (tris : List Tr) (p : Int × Int) (u : Nat) : Bool := match tris[u]? with
 | some t => cfB pts t p
 | none => false
theorem cfN_at {pts : List (Int × Int)} {tris : List Tr} {p : Int × Int} {u : Nat} {t : Tr} (h : tris[u]? = some t) : cfN pts tris p u = cfB pts t p := by unfold cfN; rw [h]
def lvT (tris : List Tr) (u : Nat) : Prop := ∃ t, tris[u]? = some t ∧ t.v0 ≠ -2
structure MsOk (pts : List (Int × Int)) (tris : List Tr) : Prop where
 ok : ∀ (n : Nat) (t : Tr), tris[n]? = some t → t.v0 ≠ -2 → cfOk pts.length t
 nb : ∀ (n : Nat) (t : Tr), tris[n]? = some t → t.v0 ≠ -2 → ∀ i, i < 3 → ∃ u : Nat, t.n i = (u : Int) ∧ lvT tris u
def clD (pts : List (Int × Int)) (tris : List Tr) (p : Int × Int) (D : Nat → Prop) : Prop := ∀ (n : Nat) (t : Tr), D n → tris[n]? = some t → ∀ i, i < 3 → ∀ u : Nat, t.n i = (u : Int) → t.fl i = false → cfN pts tris p u = true → D u
structure Bf (pts : List (Int × Int)) (tris : List Tr) (p : Int × Int) (I q : List Nat) (k i : Nat) : Prop where
 nd : q.Nodup
 lv : ∀ x, x ∈ q → lvT tris x
 ini : ∀ x, x ∈ I → x ∈ q
 mn : ∀ D : Nat → Prop, (∀ x, x ∈ I → D x) → clD pts tris p D → ∀ x, x ∈ q → D x
 cl : ∀ (j x : Nat) (t : Tr), q[j]? = some x → tris[x]? = some t → ∀ m, m < 3 → (j < k ∨ j = k ∧ m < i) → ∀ u : Nat, t.n m = (u : Int) → t.fl m = false → cfN pts tris p u = true → u ∈ q
section
variable {pts : List (Int × Int)} {tris : List Tr} {p : Int × Int} {I q : List Nat} {k i : Nat}
theorem Bf.start (h1 : I.Nodup) (h2 : ∀ x, x ∈ I → lvT tris x) : Bf pts tris p I I 0 0 :=
 ⟨h1, h2, fun _ h => h, fun _ h _ => h, fun j x t _ _ m _ h => absurd h (by omega)⟩
theorem Bf.skip (h : Bf pts tris p I q k i) {x : Nat} {t : Tr} {u : Nat} (hx : q[k]? = some x) (ht : tris[x]? = some t) (hu : t.n i = (u : Int)) (hs : u ∈ q ∨ t.fl i = true ∨ cfN pts tris p u = false) : Bf pts tris p I q k (i + 1) := by
 refine ⟨h.nd, h.lv, h.ini, h.mn, fun j y s hy hs' m hm hj w hw hf hc => ?_⟩
 by_cases e : j = k ∧ m = i
 ·obtain ⟨rfl, rfl⟩ := e
  rw [hx] at hy
  obtain rfl : x = y := Option.some.inj hy
  rw [ht] at hs'
  obtain rfl : t = s := Option.some.inj hs'
  have huw : u = w := by omega
  subst huw
  rcases hs with g | g | g
  ·exact g
  ·rw [g] at hf; cases hf
  ·rw [g] at hc; cases hc
 ·exact h.cl j y s hy hs' m hm (by omega) w hw hf hc
theorem Bf.push (h : Bf pts tris p I q k i) {x : Nat} {t : Tr} {u : Nat} (hi : i < 3) (hx : q[k]? = some x) (ht : tris[x]? = some t) (hu : t.n i = (u : Int)) (hn : ¬ u ∈ q) (hl : lvT tris u) (hf : t.fl i = false) (hc : cfN pts tris p u = true) : Bf pts tris p I (q ++ [u]) k (i + 1) := by
 have hkl := (List.getElem?_eq_some_iff.1 hx).1
 refine ⟨?_, ?_, fun y hy => List.mem_append_left _ (h.ini y hy), ?_, fun j y s hy hs' m hm hj w hw hf' hc' => ?_⟩
 ·rw [List.nodup_append]
  refine ⟨h.nd, by simp, fun a ha b hb => ?_⟩
  rw [List.mem_singleton] at hb
  subst hb
  exact fun e => hn (e ▸ ha)
 ·intro y hy
  rcases List.mem_append.1 hy with hy | hy
  ·exact h.lv y hy
  ·rw [List.mem_singleton] at hy; subst hy; exact hl
 ·intro D hD hcl y hy
  have hq := h.mn D hD hcl
  rcases List.mem_append.1 hy with hy | hy
  ·exact hq y hy
  ·rw [List.mem_singleton] at hy
   subst hy
   exact hcl x t (hq x (List.mem_of_getElem? hx)) ht i hi _ hu hf hc
 ·have hjl : j < q.length := by omega
  rw [List.getElem?_append_left hjl] at hy
  by_cases e : j = k ∧ m = i
  ·obtain ⟨rfl, rfl⟩ := e
   rw [hx] at hy
   obtain rfl : x = y := Option.some.inj hy
   rw [ht] at hs'
   obtain rfl : t = s := Option.some.inj hs'
   have huw : u = w := by omega
   subst huw
   exact List.mem_append_right _ (.head _)
  ·exact List.mem_append_left _ (h.cl j y s hy hs' m hm (by omega) w hw hf' hc')
theorem Bf.next (h : Bf pts tris p I q k 3) : Bf pts tris p I q (k + 1) 0 :=
 ⟨h.nd, h.lv, h.ini, h.mn, fun j x t hx ht m hm hj => h.cl j x t hx ht m hm (by omega)⟩
theorem Bf.len (h : Bf pts tris p I q k i) : q.length ≤ tris.length := by
 have := h.nd.length_le_of_subset (l₂ := List.range tris.length) (fun x hx => by
  obtain ⟨t, ht, _⟩ := h.lv x hx
  exact List.mem_range.2 (List.getElem?_eq_some_iff.1 ht).1)
 rw [List.length_range] at this
 exact this
structure DgOk (pts : List (Int × Int)) (tris : List Tr) (p : Int × Int) (I ts : List Nat) : Prop where
 so : ts.Pairwise (· < ·)
 lv : ∀ x, x ∈ ts → lvT tris x
 ini : ∀ x, x ∈ I → x ∈ ts
 mn : ∀ D : Nat → Prop, (∀ x, x ∈ I → D x) → clD pts tris p D → ∀ x, x ∈ ts → D x
 cl : clD pts tris p (· ∈ ts)
def toI (q : List Nat) : List Int := q.map (fun n : Nat => ((n : Nat) : Int))
def Nv (q : List Nat) : List Value := Iv (toI q)
theorem Nv_at {q : List Nat} {j x : Nat} (h : q[j]? = some x) : (Nv q)[j]? = some (.int .i64 (x : Int)) := Iv_at (by unfold toI; rw [List.getElem?_map, h]; rfl)
theorem Nv_app (q : List Nat) (u : Nat) : Nv q ++ [.int .i64 (u : Int)] = Nv (q ++ [u]) := by
 unfold Nv
 rw [Iv_app]
 simp [toI]
theorem toI_sort (q : List Nat) : ∃ ts : List Nat, toI ts = (toI q).mergeSort (fun x y => decide (x ≤ y)) ∧ ts.Perm q ∧ ts.Pairwise (· ≤ ·) := by
 refine ⟨((toI q).mergeSort (fun x y => decide (x ≤ y))).map Int.toNat, ?_, ?_, ?_⟩
 ·unfold toI
  rw [List.map_map]
  have : ∀ l : List Int, (∀ x, x ∈ l → 0 ≤ x) → l.map ((fun n : Nat => (n : Int)) ∘ Int.toNat) = l := by
   intro l
   induction l with
   | nil => intro _; rfl
   | cons a l ih =>
    intro h
    rw [List.map_cons, ih (fun x hx => h x (.tail _ hx)), Function.comp, Int.toNat_of_nonneg (h a (.head _))]
  exact this _ (fun x hx => by
   have hx2 := (List.mergeSort_perm _ _).mem_iff.1 hx
   obtain ⟨n, _, rfl⟩ := List.mem_map.1 hx2
   exact Int.natCast_nonneg n)
 ·have := (List.mergeSort_perm (toI q) (fun x y => decide (x ≤ y))).map Int.toNat
  refine this.trans ?_
  unfold toI
  rw [List.map_map]
  simp [Function.comp_def]
 ·rw [List.pairwise_map]
  have := List.pairwise_mergeSort (le := fun x y : Int => decide (x ≤ y)) (fun a b c h1 h2 => by
   rw [decide_eq_true_eq] at *; omega) (fun a b => by
   rw [Bool.or_eq_true, decide_eq_true_eq, decide_eq_true_eq]; omega) (toI q)
  exact this.imp (fun h => by have := of_decide_eq_true h; omega)
theorem Bf.done (h : Bf pts tris p I q q.length 0) {ts : List Nat} (hp : ts.Perm q) (hs : ts.Pairwise (· ≤ ·)) : DgOk pts tris p I ts where
 so := by
  have hn := hp.nodup_iff.2 h.nd
  exact hs.imp₂ (fun {a b} h1 h2 => by omega) hn
 lv x hx := h.lv x (hp.mem_iff.1 hx)
 ini x hx := hp.mem_iff.2 (h.ini x hx)
 mn D hD hc x hx := h.mn D hD hc x (hp.mem_iff.1 hx)
 cl n t hn ht i hi u hu hf hc := by
  obtain ⟨j, hj⟩ := List.mem_iff_getElem?.1 (hp.mem_iff.1 hn)
  exact hp.mem_iff.2 (h.cl j n t hj ht i hi (.inl (List.getElem?_eq_some_iff.1 hj).1) u hu hf hc)
end
abbrev MB := List (Int × Bool × Nat)
def InL (L : MB) (q : List Nat) : Prop := ∀ x : Int, (mget x L).getD false = decide (∃ u : Nat, u ∈ q ∧ x = (u : Int))
theorem InL.nil : InL [] [] := fun x => by simp [mget, mfind]
theorem InL.put {L : MB} {q : List Nat} (h : InL L q) (u c : Nat) : InL (mput (u : Int) true L c) (q ++ [u]) := fun x => by
 rw [mget_mput]
 by_cases e : x = (u : Int)
 ·subst e
  rw [if_pos rfl]
  simp
 ·rw [if_neg e, h x]
  rw [decide_eq_decide]
  constructor
  ·rintro ⟨v, hv, rfl⟩
   exact ⟨v, List.mem_append_left _ hv, rfl⟩
  ·rintro ⟨v, hv, rfl⟩
   rcases List.mem_append.1 hv with hv | hv
   ·exact ⟨v, hv, rfl⟩
   ·rw [List.mem_singleton] at hv; subst hv; exact absurd rfl e
theorem InL.at {L : MB} {q : List Nat} (h : InL L q) (u : Nat) : (mget (u : Int) L).getD false = decide (u ∈ q) := by
 rw [h, decide_eq_decide]
 constructor
 ·rintro ⟨v, hv, e⟩
  have : u = v := by omega
  subst this
  exact hv
 ·exact fun hu => ⟨u, hu, rfl⟩
def gBo (b : Bool) : Value := .bool b
theorem getD_mapB {o : Option Bool} : (o.map gBo).getD (.bool false) = .bool (o.getD false) := by cases o <;> rfl
abbrev Sd := Int × Int × Int × Int × Bool
def Sd.cells (s : Sd) : List Value := [.int .i64 s.1, .int .i64 s.2.1, .int .i64 s.2.2.1, .int .i64 s.2.2.2.1, .bool s.2.2.2.2]
def gS (s : Sd) : Value := .agg #[.int .i64 s.1, .int .i64 s.2.1, .int .i64 s.2.2.1, .int .i64 s.2.2.2.1, .bool s.2.2.2.2]
def sdCells (l : List Sd) : List Value := l.flatMap Sd.cells
abbrev MS := List (Int × Sd × Nat)
def sd0 : Sd := (0, 0, 0, 0, false)
theorem getD_mapS {o : Option Sd} : (o.map gS).getD (.agg #[.int .i64 0, .int .i64 0, .int .i64 0, .int .i64 0, .bool false]) = gS (o.getD sd0) := by cases o <;> rfl
theorem sdCells_app (l : List Sd) (s : Sd) : sdCells l ++ [.int .i64 s.1, .int .i64 s.2.1, .int .i64 s.2.2.1, .int .i64 s.2.2.2.1, .bool s.2.2.2.2] = sdCells (l ++ [s]) := by
 rw [sdCells, sdCells, List.flatMap_append]
 simp [Sd.cells]
def sdOf (tris : List Tr) (t : Tr) (x k : Nat) : Sd := (t.v ((k + 1) % 3), t.v ((k + 2) % 3), t.n k, (match tris[(t.n k).toNat]? with
 | some o => Lib.idxOf [o.n0, o.n1, o.n2] (x : Int)
 | none => 0), t.fl k)
def sdK (tris : List Tr) (q : List Nat) (t : Tr) (x k : Nat) : List Sd := (List.range k).flatMap fun i => if (t.n i).toNat ∈ q then [] else [sdOf tris t x i]
def sdT (tris : List Tr) (q : List Nat) (x : Nat) : List Sd := match tris[x]? with
 | some t => sdK tris q t x 3
 | none => []
def sdL (tris : List Tr) (q ts : List Nat) : List Sd := ts.flatMap (sdT tris q)
def dStep (cf : Nat → Bool) (s : MS × Nat × Int × Bool) (e : Sd) : MS × Nat × Int × Bool := (mput e.1 e s.1 s.2.1, mclk e.1 s.1 s.2.1, min s.2.2.1 e.1, s.2.2.2 || (e.2.2.2.2 && cf e.2.2.1.toNat))
def dFold (cf : Nat → Bool) (n0 : Int) (l : List Sd) : MS × Nat × Int × Bool := l.foldl (dStep cf) ([], 0, n0, false)
theorem dFold_app (cf : Nat → Bool) (n0 : Int) (l : List Sd) (e : Sd) : dFold cf n0 (l ++ [e]) = dStep cf (dFold cf n0 l) e := by
 unfold dFold
 rw [List.foldl_append]
 rfl
theorem sdK_in {tris : List Tr} {q : List Nat} {t : Tr} {x k u : Nat} (hu : t.n k = (u : Int)) (h : u ∈ q) : sdK tris q t x (k + 1) = sdK tris q t x k := by
 unfold sdK
 rw [List.range_succ, List.flatMap_append]
 simp [hu, h]
theorem sdK_out {tris : List Tr} {q : List Nat} {t o : Tr} {x k u : Nat} (hu : t.n k = (u : Int)) (h : ¬ u ∈ q) (ho : tris[u]? = some o) : sdK tris q t x (k + 1) = sdK tris q t x k ++ [(t.v ((k + 1) % 3), t.v ((k + 2) % 3), (u : Int), Lib.idxOf [o.n0, o.n1, o.n2] (x : Int), t.fl k)] := by
 unfold sdK
 rw [List.range_succ, List.flatMap_append]
 simp [hu, h, sdOf, ho]
theorem sdL_snoc {tris : List Tr} {q : List Nat} {ts : List Nat} {j x : Nat} {t : Tr} (hx : ts[j]? = some x) (ht : tris[x]? = some t) : sdL tris q (ts.take (j + 1)) = sdL tris q (ts.take j) ++ sdK tris q t x 3 := by
 unfold sdL
 rw [List.take_add_one, hx, List.flatMap_append]
 simp [sdT, ht]
def getS (L : MS) (a : Int) : Sd := (mget a L).getD sd0
def itS (L : MS) : Nat → Int → Int
 | 0, a => a
 | i + 1, a => (getS L (itS L i a)).2.1
def rimL (L : MS) (a : Int) (n : Nat) : List Sd := (List.range n).map fun i => getS L (itS L i a)
theorem rimL_len (L : MS) (a : Int) (n : Nat) : (rimL L a n).length = n := by unfold rimL; rw [List.length_map, List.length_range]
theorem rimL_succ (L : MS) (a : Int) (n : Nat) : rimL L a (n + 1) = rimL L a n ++ [getS L (itS L n a)] := by
 unfold rimL
 rw [List.range_succ, List.map_append]
 rfl
def dSt (pts : List (Int × Int)) (tris : List Tr) (p : Int × Int) (ts : List Nat) : MS × Nat × Int × Bool := dFold (cfN pts tris p) (pts.length : Nat) (sdL tris ts ts)
def rimOf (pts : List (Int × Int)) (tris : List Tr) (p : Int × Int) (ts : List Nat) : List Sd := rimL (dSt pts tris p ts).1 (dSt pts tris p ts).2.2.1 (dSt pts tris p ts).1.length
def cutOf (pts : List (Int × Int)) (tris : List Tr) (p : Int × Int) (ts : List Nat) : Bool := (dSt pts tris p ts).2.2.2
end Go.Proofs.Ytbanlhlggkdanaa
namespace Go.Proofs.Ytbanlhlggkdanaa
open Go.RowKit
def trV (v : T3) : Tr := ⟨v.1, v.2.1, v.2.2, -1, -1, -1, false, false, false⟩
def cfV (pts : List (Int × Int)) (v : T3) (p : Int × Int) : Bool := cfB pts (trV v) p
def hdV (pts : List (Int × Int)) (v : T3) (p : Int × Int) : Bool := decide (hld pts (trV v) p)
def egV (pts : List (Int × Int)) (v : T3) (k : Nat) (p : Int × Int) : Bool := decide (edge pts (trV v) k p)
def rvB (v : T3) : Bool := decide (rv v)
def okC (n0 : Int) (C : List T3) : Bool :=
 let E := openE C
 let m := minE E n0
 let w := (List.range E.length).map fun i => itE E i m
 decide ((E.map (·.1)).Nodup) && (decide w.Nodup && (decide (itE E E.length m = m) && (w.all (fun a => E.any fun e => decide (e.1 = a)) && decide (0 < E.length ∧ ((E.filter fun e => decide (e.1 = -1 ∨ e.2 = -1)).length = 0 ∨ (E.filter fun e => decide (e.1 = -1 ∨ e.2 = -1)).length = 2)))))
def geoC (pts : List (Int × Int)) (p : Int × Int) (C : List T3) : Bool :=
 let E := openE C
 E.all (fun e => decide (e.1 < 0 ∨ e.2 < 0 ∨ 0 < A2 (ptAt pts e.1).1 (ptAt pts e.1).2 (ptAt pts e.2).1 (ptAt pts e.2).2 p.1 p.2)) &&
 (C.any (fun v => !rvB v) || (decide ((C.map fun v => A2p pts v.1 v.2.1 v.2.2).sum = (E.map fun e => A2 p.1 p.2 (ptAt pts e.1).1 (ptAt pts e.1).2 (ptAt pts e.2).1 (ptAt pts e.2).2).sum) && decide (E.length = C.length + 2)))
def subs : List T3 → List (List T3)
 | [] => [[]]
 | x :: l => subs l ++ (subs l).map (x :: ·)
def inK (W H : Nat) (f : Nat → Bool) (p : Int × Int) (v : T3) (k : Nat) : Bool :=
 let P := gPts W H; let T := gTris W H f; let G := gAll W H f
 let I := G.filter fun x => decide (x = v) || decide (rev2 (kv v k) ∈ eds x)
 G.all (fun x => rvB x || (!cfV P x p || decide (x ∈ I))) && (decide (I.length = 2) && (subs (T.filter fun x => cfV P x p && !decide (x ∈ I))).all fun S => let C := G.filter (fun x => decide (x ∈ I) || decide (x ∈ S)); okC P.length C && geoC P p C)
def inP (W H : Nat) (f : Nat → Bool) (p : Int × Int) : Bool :=
 let P := gPts W H; let T := gTris W H f
 T.any (fun v => hdV P v p) && (decide (p ∈ P) || T.all fun v => !hdV P v p || (!decide (ptAt P v.1 = p) && (!decide (ptAt P v.2.1 = p) && (!decide (ptAt P v.2.2 = p) &&
  (if egV P v 0 p then inK W H f p v 0 else if egV P v 1 p then inK W H f p v 1 else if egV P v 2 p then inK W H f p v 2 else false)))))
def inB (W H : Nat) (f : Nat → Bool) : Bool := (List.range (2 * W + 1)).all fun x => (List.range (2 * H + 1)).all fun y => inP W H f ((x : Int), (y : Int))
def sdV (pts : List (Int × Int)) (W H : Nat) (v : T3) : Nat :=
 let b := ptAt pts v.1; let a := ptAt pts v.2.1
 if b.1 = 0 ∧ a.1 = 0 ∧ a.2 = b.2 + 2 then 0 else if b.1 = 2 * W ∧ a.1 = 2 * W ∧ a.2 = b.2 - 2 then 1 else if b.2 = 0 ∧ a.2 = 0 ∧ a.1 = b.1 - 2 then 2 else if b.2 = 2 * H ∧ a.2 = 2 * H ∧ a.1 = b.1 + 2 then 3 else 4
def bySd (bL bR bB bT : Bool) (s : Nat) : Bool := if s = 0 then bL else if s = 1 then bR else if s = 2 then bB else if s = 3 then bT else false
def reach (K : List T3) : Nat → List T3 → List T3
 | 0, R => R
 | n + 1, R => reach K n (K.filter fun x => decide (x ∈ R) || R.any fun r => (eds r).any fun e => decide (e.1 = -1 ∨ e.2 = -1) && decide (rev2 e ∈ eds x))
def outC (W H : Nat) (f : Nat → Bool) (bL bR bB bT : Bool) : Bool :=
 let P := gPts W H; let G := gAll W H f
 let K := G.filter fun x => !rvB x && bySd bL bR bB bT (sdV P W H x)
 okC P.length K && (K.all (fun g => K.all fun x => decide (x ∈ reach K 8 [g])) && decide (0 < K.length))
def outB (W H : Nat) (f : Nat → Bool) : Bool :=
 let P := gPts W H; let G := gAll W H f
 G.all (fun v => rvB v || (decide (v.2.2 = -1) && decide (sdV P W H v < 4))) &&
 (outC W H f true false false false && (outC W H f false true false false && (outC W H f false false true false && (outC W H f false false false true && (outC W H f true false true false && (outC W H f true false false true && (outC W H f false true true false && outC W H f false true false true)))))))
set_option maxRecDepth 100000 in
theorem outB_all : ∀ b0 b1 b2 b3 : Bool, outB 1 1 (bit4 b0 b1 b2 b3) = true ∧ outB 1 2 (bit4 b0 b1 b2 b3) = true ∧ outB 2 1 (bit4 b0 b1 b2 b3) = true ∧ outB 2 2 (bit4 b0 b1 b2 b3) = true := by decide +kernel
set_option maxRecDepth 100000 in
theorem inB_all : ∀ b0 b1 b2 b3 : Bool, inB 1 1 (bit4 b0 b1 b2 b3) = true ∧ inB 1 2 (bit4 b0 b1 b2 b3) = true ∧ inB 2 1 (bit4 b0 b1 b2 b3) = true ∧ inB 2 2 (bit4 b0 b1 b2 b3) = true := by decide +kernel
end Go.Proofs.Ytbanlhlggkdanaa
namespace Go.Proofs.Ytbanlhlggkdanaa
open Go.RowKit Go.Sort
abbrev Ed := Int × Int × Bool × Bool
def Ed.cells (e : Ed) : List Value := [.int .i64 e.1, .int .i64 e.2.1, .bool e.2.2.1, .bool e.2.2.2]
def Ed.ok (e : Ed) : Prop := (0 ≤ e.1 ∧ e.1 < 1024) ∧ 0 ≤ e.2.1 ∧ e.2.1 < 1024
def edLt (x y : Ed) : Prop := x.1 < y.1 ∨ (x.1 = y.1 ∧ x.2.1 < y.2.1)
end Go.Proofs.Ytbanlhlggkdanaa
namespace Go.Proofs
open Go.Shelf Go.RowKit Go.Lib Go.Sort
end Go.Proofs
namespace Go.Proofs.Ytbanlhlggkdanaa
open Go.Shelf Go.RowKit Go.Lib Go.Sort
end Go.Proofs.Ytbanlhlggkdanaa
namespace Go.Proofs.Ytbanlhlggkdanaa
open Go.RowKit
def emit (tris : List Tr) (t : Tr) (k : Nat) : List Ed :=
 if ¬ isReal tris (t.n k) ∨ t.v ((k + 1) % 3) < t.v ((k + 2) % 3) then [(min (t.v ((k + 1) % 3)) (t.v ((k + 2) % 3)), max (t.v ((k + 1) % 3)) (t.v ((k + 2) % 3)), t.fl k, !decide (isReal tris (t.n k)))] else []
def emK (tris : List Tr) (t : Tr) (k : Nat) : List Ed := (List.range k).flatMap (emit tris t)
def edL (tris : List Tr) (l : List (Nat × Tr)) : List Ed := l.flatMap fun x => emK tris x.2 3
section
variable {E : Env} {Q : Qt} {σ : List (Nat × Value)} {μ φ : List Res} {ops : Array Oper} {rest : List Oper} {cd : Code}
end
end Go.Proofs.Ytbanlhlggkdanaa
namespace Go.Proofs.Ytbanlhlggkdanaa
open Go.RowKit
end Go.Proofs.Ytbanlhlggkdanaa
namespace Go.Proofs.Ytbanlhlggkdanaa
open Go.RowKit
def emV (TE : List (Int × Int)) (v : T3) : List (Int × Int × Bool) := [0, 1, 2].flatMap fun k => if ¬ rev2 (kv v k) ∈ TE ∨ (kv v k).1 < (kv v k).2 then [(min (kv v k).1 (kv v k).2, max (kv v k).1 (kv v k).2, !decide (rev2 (kv v k) ∈ TE))] else []
def key3 (e : Ed) : Int × Int × Bool := (e.1, e.2.1, e.2.2.2)
theorem emV_congr {TE TE' : List (Int × Int)} (h : ∀ e, e ∈ TE ↔ e ∈ TE') (v : T3) : emV TE v = emV TE' v := by
 unfold emV
 simp only [h]
section
variable {F : MapI} {tris : List Tr} {V : List (Nat × T3)} {n : Nat}
theorem mem_edsk {v : T3} {e : Int × Int} : e ∈ eds v ↔ ∃ k, k < 3 ∧ kv v k = e := by
 constructor
 ·intro h
  simp only [eds, List.mem_cons, List.not_mem_nil, or_false] at h
  rcases h with q | q | q
  ·exact ⟨0, by decide, q.symm⟩
  ·exact ⟨1, by decide, q.symm⟩
  ·exact ⟨2, by decide, q.symm⟩
 ·rintro ⟨k, hk, rfl⟩
  match k, hk with
  | 0, _ => exact .head _
  | 1, _ => exact .tail _ (.head _)
  | 2, _ => exact .tail _ (.tail _ (.head _))
theorem LM.real_nb (h : LM F tris V) (hT : TG n (V.map (·.2))) {x : Nat × T3} (hx : x ∈ V) {t : Tr} (ht : tris[x.1]? = some t) {k : Nat} (hk : k < 3) : isReal tris (t.n k) ↔ rev2 (kv x.2 k) ∈ ((V.map (·.2)).filter (fun v => decide (rv v))).flatMap eds := by
 obtain ⟨y, hy, j, hj, he2, hn, _⟩ := h.across hT hx ht hk
 rw [hn, h.real_at hy, List.mem_flatMap]
 constructor
 ·intro hr
  exact ⟨y.2, List.mem_filter.2 ⟨List.mem_map.2 ⟨y, hy, rfl⟩, by simpa using hr⟩, mem_edsk.2 ⟨j, hj, he2⟩⟩
 ·rintro ⟨w, hw, hwe⟩
  rw [List.mem_filter] at hw
  obtain ⟨hw1, hw2⟩ := hw
  obtain ⟨z, hz, rfl⟩ := List.mem_map.1 hw1
  obtain ⟨m, hm, hzm⟩ := mem_edsk.1 hwe
  have hyz := (h.un y hy j hj z hz m hm (he2.trans hzm.symm)).1
  rw [hyz]
  simpa using hw2
theorem t_kv (t : Tr) (k : Nat) : kv (t.v0, t.v1, t.v2) k = (t.v ((k + 1) % 3), t.v ((k + 2) % 3)) := rfl
theorem LM.em3 (h : LM F tris V) (hT : TG n (V.map (·.2))) {q : Nat} {t : Tr} (hx : (q, (t.v0, t.v1, t.v2)) ∈ V) (ht : tris[q]? = some t) : (emK tris t 3).map key3 = emV (((V.map (·.2)).filter (fun v => decide (rv v))).flatMap eds) (t.v0, t.v1, t.v2) := by
 have key : ∀ k, k < 3 → (emit tris t k).map key3 = if ¬ rev2 (kv (t.v0, t.v1, t.v2) k) ∈ ((V.map (·.2)).filter (fun v => decide (rv v))).flatMap eds ∨ (kv (t.v0, t.v1, t.v2) k).1 < (kv (t.v0, t.v1, t.v2) k).2 then [(min (kv (t.v0, t.v1, t.v2) k).1 (kv (t.v0, t.v1, t.v2) k).2, max (kv (t.v0, t.v1, t.v2) k).1 (kv (t.v0, t.v1, t.v2) k).2, !decide (rev2 (kv (t.v0, t.v1, t.v2) k) ∈ ((V.map (·.2)).filter (fun v => decide (rv v))).flatMap eds))] else [] := by
  intro k hk
  have hr := h.real_nb hT hx ht hk
  dsimp only at hr
  unfold emit
  rw [t_kv] at *
  simp only [hr]
  split <;> simp [key3]
 unfold emK emV
 rw [show List.range 3 = [0, 1, 2] from rfl]
 simp only [List.flatMap_cons, List.flatMap_nil, List.map_append, List.append_nil]
 rw [key 0 (by decide), key 1 (by decide), key 2 (by decide)]
theorem LM.realV (h : LM F tris V) (hT : TG n (V.map (·.2))) : ((reals tris).map (fun x => ((x.2.v0, x.2.v1, x.2.v2) : T3))).Perm ((V.map (·.2)).filter (fun v => decide (rv v))) := by
 have e1 : ((reals tris).map (fun x => ((x.1, (x.2.v0, x.2.v1, x.2.v2)) : Nat × T3))).Perm (V.filter (fun x => decide (rv x.2))) := by
  rw [show reals tris = realsF 0 tris from rfl, realsF_lv]
  exact (h.perm hT).filter _
 have e2 := e1.map (·.2)
 rw [List.map_map] at e2
 rw [List.filter_map]
 exact e2
theorem LM.edP (h : LM F tris V) (hT : TG n (V.map (·.2))) : ((edL tris (reals tris)).map key3).Perm (((V.map (·.2)).filter (fun v => decide (rv v))).flatMap (emV (((V.map (·.2)).filter (fun v => decide (rv v))).flatMap eds))) := by
 have e : (edL tris (reals tris)).map key3 = ((reals tris).map (fun x => ((x.2.v0, x.2.v1, x.2.v2) : T3))).flatMap (emV (((V.map (·.2)).filter (fun v => decide (rv v))).flatMap eds)) := by
  unfold edL
  rw [List.map_flatMap, List.flatMap_map]
  have : ∀ l : List (Nat × Tr), (∀ x, x ∈ l → x ∈ reals tris) → l.flatMap (fun x => (emK tris x.2 3).map key3) = l.flatMap (fun x => emV (((V.map (·.2)).filter (fun v => decide (rv v))).flatMap eds) (x.2.v0, x.2.v1, x.2.v2)) := by
   intro l
   induction l with
   | nil => intro _; rfl
   | cons x l ih =>
    intro hl
    obtain ⟨q, t⟩ := x
    obtain ⟨g1, g2, _⟩ := h.mem_real.1 (hl _ (.head _))
    rw [List.flatMap_cons, List.flatMap_cons, ih (fun y hy => hl y (.tail _ hy)), h.em3 hT g2 g1]
  exact this _ (fun _ h => h)
 rw [e]
 exact (h.realV hT).flatMap_right _
end
def eB (W H : Nat) (f : Nat → Bool) : Bool :=
 let T := gTris W H f
 let E := T.flatMap (emV (T.flatMap eds))
 let l := hullV (openE T) (gPts W H).length
 decide ((gAll W H f).filter (fun v => decide (rv v)) = T) && (decide ((E.map fun e => (e.1, e.2.1)).Nodup) && (E.all (fun e => decide (0 ≤ e.1 ∧ e.1 < e.2.1 ∧ e.2.1 < 1024)) && (decide (E.length + 1 = (gPts W H).length + T.length) && (decide ((E.filter (·.2.2)).length = l.length) && (decide (l[0]? = some 0) &&
 (List.range l.length).all (fun i => decide ((l.getD i 0, l.getD ((i + 1) % l.length) 0) ∈ openE T)))))))
theorem eB_all : ∀ b0 b1 b2 b3 : Bool, eB 1 1 (bit4 b0 b1 b2 b3) = true ∧ eB 1 2 (bit4 b0 b1 b2 b3) = true ∧ eB 2 1 (bit4 b0 b1 b2 b3) = true ∧ eB 2 2 (bit4 b0 b1 b2 b3) = true := by decide +kernel
theorem eB_true {W H : Nat} {f : Nat → Bool} (hW : W = 1 ∨ W = 2) (hH : H = 1 ∨ H = 2) : eB W H f = true := by
 have := eB_all (f 0) (f 1) (f 2) (f 3)
 unfold eB gAll at this ⊢
 rw [gTris_nf hW hH]
 rcases hW with rfl | rfl <;> rcases hH with rfl | rfl
 ·exact this.1
 ·exact this.2.1
 ·exact this.2.2.1
 ·exact this.2.2.2
theorem at_nodup {α : Type} {l : List α} (hn : l.Nodup) {i j : Nat} {a : α} (h1 : l[i]? = some a) (h2 : l[j]? = some a) : i = j :=
 (List.getElem?_inj (List.getElem?_eq_some_iff.1 h1).1 hn).1 (h1.trans h2.symm)
instance (x y : Ed) : Decidable (edLt x y) := by unfold edLt; infer_instance
section
variable {F : MapI} {W H : Nat} {f : Nat → Bool} {M : MD} {V : List (Nat × T3)}
theorem GM.eall (h : GM F W H f M V) (hW : W = 1 ∨ W = 2) (hH : H = 1 ∨ H = 2) : ((edL M.tris (reals M.tris)).map (fun e => (e.1, e.2.1))).Nodup ∧ (∀ e, e ∈ edL M.tris (reals M.tris) → 0 ≤ e.1 ∧ e.1 < e.2.1 ∧ e.2.1 < 1024) ∧ (edL M.tris (reals M.tris)).length + 1 = M.pts.length + (reals M.tris).length ∧
  ((edL M.tris (reals M.tris)).filter (·.2.2.2)).length = (hullV (openE (gTris W H f)) (gPts W H).length).length ∧ (reals M.tris).length = (gTris W H f).length ∧ (hullV (openE (gTris W H f)) (gPts W H).length)[0]? = some 0 ∧
  ∀ i, i < (hullV (openE (gTris W H f)) (gPts W H).length).length → ((hullV (openE (gTris W H f)) (gPts W H).length).getD i 0, (hullV (openE (gTris W H f)) (gPts W H).length).getD ((i + 1) % (hullV (openE (gTris W H f)) (gPts W H).length).length) 0) ∈ openE (gTris W H f) := by
 have hb := eB_true (f := f) hW hH
 unfold eB at hb
 simp only [Bool.and_eq_true, decide_eq_true_eq, List.all_eq_true, List.mem_range] at hb
 obtain ⟨b1, b2, b3, b4, b5, b6, b7⟩ := hb
 have hT : ((V.map (·.2)).filter (fun v => decide (rv v))).Perm (gTris W H f) := by
  have := h.pm.filter (fun v => decide (rv v))
  rw [b1] at this
  exact this
 have hp := h.lm.edP h.tg
 have hq : ((edL M.tris (reals M.tris)).map key3).Perm ((gTris W H f).flatMap (emV ((gTris W H f).flatMap eds))) := by
  refine hp.trans ?_
  have e : emV (((V.map (·.2)).filter (fun v => decide (rv v))).flatMap eds) = emV ((gTris W H f).flatMap eds) := funext fun v => emV_congr (fun e => (hT.flatMap_right eds).mem_iff) v
  rw [e]
  exact hT.flatMap_right _
 have hrl : (reals M.tris).length = (gTris W H f).length := by
  have := ((h.lm.realV h.tg).trans hT).length_eq
  rw [List.length_map] at this
  exact this
 refine ⟨?_, fun e he => ?_, ?_, ?_, hrl, b6, b7⟩
 ·have e := hq.map (fun x => (x.1, x.2.1))
  rw [List.map_map] at e
  exact e.nodup_iff.2 b2
 ·exact b3 _ (hq.mem_iff.1 (List.mem_map.2 ⟨e, he, rfl⟩))
 ·have e := hq.length_eq
  rw [List.length_map] at e
  rw [hrl, h.pts, e]
  exact b4
 ·have e := (hq.filter (·.2.2)).length_eq
  rw [List.filter_map, List.length_map] at e
  exact (show _ = _ from e).trans b5
theorem GM.e0 (h : GM F W H f M V) (hW : W = 1 ∨ W = 2) (hH : H = 1 ∨ H = 2) : 0 < (edL M.tris (reals M.tris)).length := by
 obtain ⟨_, _, e3, _, _, _, _⟩ := h.eall hW hH
 have : 4 ≤ M.pts.length := by
  rw [h.pts]
  rcases hW with rfl | rfl <;> rcases hH with rfl | rfl <;> decide
 omega
theorem GM.edge (h : GM F W H f M V) {e : Ed} (he : e ∈ edL M.tris (reals M.tris)) : ∃ y, y ∈ V ∧ ∃ j, j < 3 ∧ ∃ y', y' ∈ V ∧ ∃ j', j' < 3 ∧ ∃ t t', M.tris[y.1]? = some t ∧ M.tris[y'.1]? = some t' ∧ kv y.2 j = (e.1, e.2.1) ∧ kv y'.2 j' = (e.2.1, e.1) ∧ t.fl j = e.2.2.1 ∧ t'.fl j' = e.2.2.1 ∧ e.2.2.2 = (!decide (isReal M.tris (y.1 : Int)) || !decide (isReal M.tris (y'.1 : Int))) := by
 obtain ⟨⟨q, t⟩, hx, hk⟩ := List.mem_flatMap.1 he
 obtain ⟨ht, hV, hr⟩ := h.lm.mem_real.1 hx
 obtain ⟨k, hk3, hke⟩ := List.mem_flatMap.1 hk
 have hk3 : k < 3 := List.mem_range.1 hk3
 dsimp only at hke
 unfold emit at hke
 split at hke
 ·rename_i hor
  rw [List.mem_singleton] at hke
  obtain ⟨y, hy, j, hj, he2, hn, _, o, ho, hov, _, hof⟩ := h.lm.across h.tg hV ht hk3
  dsimp only at he2
  rw [t_kv] at he2
  have hq : isReal M.tris (q : Int) := (h.lm.real_at hV).2 hr
  rcases Int.le_total (t.v ((k + 1) % 3)) (t.v ((k + 2) % 3)) with hc | hc
  ·refine ⟨_, hV, k, hk3, y, hy, j, hj, t, o, ht, ho, ?_, ?_, ?_, ?_, ?_⟩
   ·rw [hke, t_kv, Int.min_eq_left hc, Int.max_eq_right hc]
   ·rw [hke, he2, Int.min_eq_left hc, Int.max_eq_right hc]
   ·rw [hke]
   ·rw [hke]; exact hof
   ·rw [hke, hn, decide_eq_true hq]; rfl
  ·refine ⟨y, hy, j, hj, _, hV, k, hk3, o, t, ho, ht, ?_, ?_, ?_, ?_, ?_⟩
   ·rw [hke, he2, Int.min_eq_right hc, Int.max_eq_left hc]
   ·rw [hke, t_kv, Int.min_eq_right hc, Int.max_eq_left hc]
   ·rw [hke]; exact hof
   ·rw [hke]
   ·rw [hke, hn, decide_eq_true hq]; simp
 ·cases hke
theorem GM.bord (h : GM F W H f M V) (hW : W = 1 ∨ W = 2) (hH : H = 1 ∨ H = 2) {a b : Int} (he : (a, b) ∈ openE (gTris W H f)) : ∃ y, y ∈ V ∧ ∃ j, j < 3 ∧ ∃ y', y' ∈ V ∧ ∃ j', j' < 3 ∧ ∃ t t', M.tris[y.1]? = some t ∧ M.tris[y'.1]? = some t' ∧ kv y.2 j = (a, b) ∧ kv y'.2 j' = (b, a) ∧ isReal M.tris (y.1 : Int) ∧ ¬ isReal M.tris (y'.1 : Int) := by
 have hb := eB_true (f := f) hW hH
 unfold eB at hb
 simp only [Bool.and_eq_true, decide_eq_true_eq] at hb
 obtain ⟨b1, _⟩ := hb
 have hT : ((V.map (·.2)).filter (fun v => decide (rv v))).Perm (gTris W H f) := by
  have := h.pm.filter (fun v => decide (rv v))
  rw [b1] at this
  exact this
 rw [mem_openE] at he
 obtain ⟨h1, h2⟩ := he
 rw [← (hT.flatMap_right eds).mem_iff] at h1 h2
 obtain ⟨w, hw, hwe⟩ := List.mem_flatMap.1 h1
 rw [List.mem_filter] at hw
 obtain ⟨hw1, hw2⟩ := hw
 obtain ⟨x, hx, rfl⟩ := List.mem_map.1 hw1
 obtain ⟨k, hk, hke⟩ := mem_edsk.1 hwe
 obtain ⟨t, ht, _⟩ := h.lm.get hx
 obtain ⟨y, hy, j, hj, he2, hn, _, o, ho, _, _, _⟩ := h.lm.across h.tg hx ht hk
 refine ⟨x, hx, k, hk, y, hy, j, hj, t, o, ht, ho, hke, by rw [he2, hke], (h.lm.real_at hx).2 (by simpa using hw2), fun hr => ?_⟩
 rw [← hn] at hr
 have := (h.lm.real_nb h.tg hx ht hk).1 hr
 rw [hke] at this
 exact h2 this
end
end Go.Proofs.Ytbanlhlggkdanaa
