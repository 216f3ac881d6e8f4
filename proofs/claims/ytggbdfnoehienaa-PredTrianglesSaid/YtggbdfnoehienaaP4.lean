/- The walks of the helpers of the statements about pred, which reckon with numbers of any size. -/
import Derived.Test.YtggbdfnoehienaaP3
import Derived.Test.YtggbdfnoehienaaPha
set_option linter.unusedSimpArgs false
set_option linter.unusedVariables false
namespace Go.Proofs.Ytggbdfnoehienaa
open Go.RowKit

theorem ent_70 : Enter Try.prog 70 = true := by kernel_rfl
theorem ent_71 : Enter Try.prog 71 = true := by kernel_rfl
theorem ent_47 : Enter Try.prog 47 = true := by kernel_rfl
theorem ent_49 : Enter Try.prog 49 = true := by kernel_rfl
theorem ent_42 : Enter Try.prog 42 = true := by kernel_rfl
theorem ent_48 : Enter Try.prog 48 = true := by kernel_rfl
theorem ent_45 : Enter Try.prog 45 = true := by kernel_rfl
theorem ent_46 : Enter Try.prog 46 = true := by kernel_rfl
theorem ent_44 : Enter Try.prog 44 = true := by kernel_rfl
theorem ulen_87 : ((#[87] : Array TypeId)[0]?).bind Try.prog.underlying = some (.slice (Try.prog.elem ((#[87] : Array TypeId).getD 0 0))) := by kernel_rfl
theorem elt_87 : elt Try.prog 87 = some (53, 2, 16) := by kernel_rfl


theorem r128_two : R128 2 := by decide
theorem i64_two : I64 2 := by unfold I64; omega
theorem Tm.i64 {x : Int} (h : Tm x) : I64 x := by unfold Tm at h; unfold I64; omega


set_option maxRecDepth 100000 in
set_option maxHeartbeats 1000000 in
theorem less_c {a e : Int} (ha : Tm a) (he : Tm e) : Tri Try.prog 70 [.int .i64 a, .int .i64 e] [] [] (RetN (a - e)) := by
  refine Tri_of (N := 10) Try.func70 rfl ent_70 rfl rfl ?_
  intro w0 S0 T0
  show CJ _ _ _ [(0, _), (1, _)] _ _
  refine CJ_seq ?_
  refine CJ_reg ?_
  refine LJ_alloc (cs := #[_, _]) rfl rfl zer_29 rfl ?_
  intro b1
  refine LJ_nil ?_
  refine QJ_then ?_
  refine CJ_seq ?_
  refine CJ_reg ?_
  refine LJ_y rfl rfl (YJ_move rfl) ?_
  refine LJ_callX rfl rfl rfl rfl rfl (nof_c ha.i64) (AllIn.sub (by first | exact trivial | exact And.intro (by repeat first | exact .head _ | apply List.Mem.tail) trivial | exact And.intro (by repeat first | exact .head _ | apply List.Mem.tail) (And.intro (by repeat first | exact .head _ | apply List.Mem.tail) trivial))) ?_
  rintro ⟨A1, k1⟩ hcap1
  dsimp only at hcap1
  dsimp only [List.cons_append, List.nil_append]
  refine LJ_y rfl rfl (YJ_move rfl) ?_
  refine LJ_callX rfl rfl rfl rfl rfl (nof_c he.i64) (AllIn.sub (by first | exact trivial | exact And.intro (by repeat first | exact .head _ | apply List.Mem.tail) trivial | exact And.intro (by repeat first | exact .head _ | apply List.Mem.tail) (And.intro (by repeat first | exact .head _ | apply List.Mem.tail) trivial))) ?_
  rintro ⟨A2, k2⟩ hcap2
  dsimp only at hcap2
  dsimp only [List.cons_append, List.nil_append]
  refine LJ_callX rfl rfl rfl rfl rfl (nsub_c (dl_big ha.i64.r) (dl_big he.i64.r) hcap1 hcap2) (AllIn.sub (And.intro (by repeat first | exact .head _ | apply List.Mem.tail) (And.intro (by repeat first | exact .head _ | apply List.Mem.tail) trivial))) ?_
  rintro ⟨A3, k3⟩ hcap3
  dsimp only at hcap3
  dsimp only [List.cons_append, List.nil_append]
  refine LJ_store (cs' := #[_, _]) (μ' := [_]) 0 rfl rfl rfl rfl tyi_29 rfl (Nat.le_of_ble_eq_true rfl) rfl rfl rfl ?_
  refine LJ_nil ?_
  refine QJ_then ?_
  refine CJ_ret ?_
  refine QJ_fin (.inl rfl) (μ' := []) (μr := _) (φ' := [numF (a - e) A3]) (res_cell (vs := [_, _]) rfl rfl (by repeat first | exact .head _ | apply List.Mem.tail) tyi_29 rfl) (List.Perm.refl _) (AllIn.sub (And.intro (.head _) trivial)) ?_
  exact ⟨(A3, k3), hcap3, rfl, rfl, rfl⟩

set_option maxRecDepth 100000 in
set_option maxHeartbeats 1000000 in
theorem ldet_c {a e c d : Int} {A B C D : Option Addr} {k l m o : Nat} (ha : dl a ≤ 1000) (he : dl e ≤ 1000) (hc : dl c ≤ 1000) (hd : dl d ≤ 1000) (hk : dl a ≤ k) (hl : dl e ≤ l) (hm : dl c ≤ m) (ho : dl d ≤ o) : Tri Try.prog 71 [numV a A k, numV e B l, numV c C m, numV d D o] [] [numF a A, numF e B, numF c C, numF d D] (RetN (a * d - e * c)) := by
  refine Tri_of (N := 16) Try.func71 rfl ent_71 rfl rfl ?_
  intro w0 S0 T0
  show CJ _ _ _ [(0, _), (1, _), (2, _), (3, _)] _ _
  refine CJ_seq ?_
  refine CJ_reg ?_
  refine LJ_box (cs := #[_, _]) rfl rfl rfl rfl ?_
  intro b1
  refine LJ_box (cs := #[_, _]) rfl rfl rfl rfl ?_
  intro b2
  refine LJ_box (cs := #[_, _]) rfl rfl rfl rfl ?_
  intro b3
  refine LJ_box (cs := #[_, _]) rfl rfl rfl rfl ?_
  intro b4
  refine LJ_alloc (cs := #[_, _]) rfl rfl zer_29 rfl ?_
  intro b5
  refine LJ_nil ?_
  refine QJ_then ?_
  refine CJ_seq ?_
  refine CJ_regD mix (by kernel_rfl) (fun _ _ _ _ _ h => h) (selR [1, 2, 3, 4] _) _ (selR_sub _ _) (fun _ h => h) ?_
  first | refine AJ_y 0 rfl (by kernel_rfl) (by kernel_rfl) rfl rfl (YJ_loadN (vs := [_, _]) rfl tyi_29 (by repeat first | exact .head _ | apply List.Mem.tail) rfl rfl) ?_ | refine AJ_y 0 rfl (by kernel_rfl) (by kernel_rfl) rfl rfl (YJ_loadFactN (vs := [_, _]) rfl tyi_29 (by repeat first | exact .head _ | apply List.Mem.tail) rfl rfl) ?_
  first | refine AJ_y 1 rfl (by kernel_rfl) (by kernel_rfl) rfl rfl (YJ_loadN (vs := [_, _]) rfl tyi_29 (by repeat first | exact .head _ | apply List.Mem.tail) rfl rfl) ?_ | refine AJ_y 1 rfl (by kernel_rfl) (by kernel_rfl) rfl rfl (YJ_loadFactN (vs := [_, _]) rfl tyi_29 (by repeat first | exact .head _ | apply List.Mem.tail) rfl rfl) ?_
  first | refine AJ_y 3 rfl (by kernel_rfl) (by kernel_rfl) rfl rfl (YJ_loadN (vs := [_, _]) rfl tyi_29 (by repeat first | exact .head _ | apply List.Mem.tail) rfl rfl) ?_ | refine AJ_y 3 rfl (by kernel_rfl) (by kernel_rfl) rfl rfl (YJ_loadFactN (vs := [_, _]) rfl tyi_29 (by repeat first | exact .head _ | apply List.Mem.tail) rfl rfl) ?_
  first | refine AJ_y 4 rfl (by kernel_rfl) (by kernel_rfl) rfl rfl (YJ_loadN (vs := [_, _]) rfl tyi_29 (by repeat first | exact .head _ | apply List.Mem.tail) rfl rfl) ?_ | refine AJ_y 4 rfl (by kernel_rfl) (by kernel_rfl) rfl rfl (YJ_loadFactN (vs := [_, _]) rfl tyi_29 (by repeat first | exact .head _ | apply List.Mem.tail) rfl rfl) ?_
  refine AJ_callX 2 rfl (by kernel_rfl) rfl rfl rfl rfl rfl (nmul_c (Nat.le_trans ha (by decide)) (Nat.le_trans hd (by decide)) hk ho) (AllIn.sub (And.intro (by repeat first | exact .head _ | apply List.Mem.tail) (And.intro (by repeat first | exact .head _ | apply List.Mem.tail) trivial))) ?_
  rintro ⟨A1, k1⟩ hcap1
  dsimp only at hcap1
  dsimp only [List.cons_append, List.nil_append]
  refine AJ_callX 5 rfl (by kernel_rfl) rfl rfl rfl rfl rfl (nmul_c (Nat.le_trans he (by decide)) (Nat.le_trans hc (by decide)) hl hm) (AllIn.sub (And.intro (by repeat first | exact .head _ | apply List.Mem.tail) (And.intro (by repeat first | exact .head _ | apply List.Mem.tail) trivial))) ?_
  rintro ⟨A2, k2⟩ hcap2
  dsimp only at hcap2
  dsimp only [List.cons_append, List.nil_append]
  refine AJ_callX 6 rfl (by kernel_rfl) rfl rfl rfl rfl rfl (nsub_c (a := a * d) (b := e * c) (Nat.le_trans (dl_mul ha hd) (by decide)) (Nat.le_trans (dl_mul he hc) (by decide)) hcap1 hcap2) (AllIn.sub (And.intro (by repeat first | exact .head _ | apply List.Mem.tail) (And.intro (by repeat first | exact .head _ | apply List.Mem.tail) trivial))) ?_
  rintro ⟨A3, k3⟩ hcap3
  dsimp only at hcap3
  dsimp only [List.cons_append, List.nil_append]
  refine AJ_store (cs' := #[_, _]) (μ' := [_, _, _, _, _]) 7 0 rfl (by kernel_rfl) rfl rfl rfl rfl tyi_29 rfl (Nat.le_of_ble_eq_true rfl) rfl rfl rfl (fun _ => AllIn.sub (And.intro (by repeat first | exact .head _ | apply List.Mem.tail) (And.intro (by repeat first | exact .head _ | apply List.Mem.tail) (And.intro (by repeat first | exact .head _ | apply List.Mem.tail) (And.intro (by repeat first | exact .head _ | apply List.Mem.tail) (trivial)))))) ?_
  refine AJ_done (by kernel_rfl) ?_
  refine QJ_then ?_
  refine CJ_ret ?_
  refine QJ_fin (.inl rfl) (μ' := []) (μr := _) (φ' := [numF (a * d - e * c) A3]) (res_cell (vs := [_, _]) rfl rfl (by repeat first | exact .head _ | apply List.Mem.tail) tyi_29 rfl) (List.Perm.refl _) (AllIn.sub (And.intro (.head _) trivial)) ?_
  exact ⟨(A3, k3), hcap3, rfl, rfl, rfl⟩

set_option maxRecDepth 100000 in
set_option maxHeartbeats 1000000 in
theorem square_c {a1 a2 e1 e2 : Int} (ha : P2 a1 a2) (he : P2 e1 e2) : Tri Try.prog 47 [ptv a1 a2, ptv e1 e2] [] [] (RetN ((a1 - e1) * (a1 - e1) + (a2 - e2) * (a2 - e2))) := by
  refine Tri_of (N := 24) Try.func47 rfl ent_47 rfl rfl ?_
  intro w0 S0 T0
  show CJ _ _ _ [(0, _), (1, _)] _ _
  refine CJ_seq ?_
  refine CJ_reg ?_
  refine LJ_box (cs := #[_, _]) rfl rfl rfl rfl ?_
  intro b1
  refine LJ_box (cs := #[_, _]) rfl rfl rfl rfl ?_
  intro b2
  refine LJ_alloc (cs := #[_, _]) rfl rfl zer_29 rfl ?_
  intro b3
  refine LJ_nil ?_
  refine QJ_then ?_
  refine CJ_seq ?_
  refine CJ_regDA mix (by kernel_rfl) (fun _ _ _ _ _ h => h) _ _ (fun _ h => h) (fun _ h => h) [⟨10, 5, 29, #[.bool false, .slice none 0 0]⟩, ⟨11, 6, 29, #[.bool false, .slice none 0 0]⟩] 12 rfl (And.intro ⟨_, _, _, _, rfl, zer_29, rfl⟩ (And.intro ⟨_, _, _, _, rfl, zer_29, rfl⟩ (trivial))) rfl rfl ?_
  first | refine AA_y 0 rfl (by kernel_rfl) rfl rfl rfl (YJ_fieldOwn rfl fld_53_0 rfl) ?_ | refine AA_y 0 rfl (by kernel_rfl) rfl rfl rfl (YJ_fieldAddr rfl fld_53_0) ?_
  first | refine AA_y 1 rfl (by kernel_rfl) rfl rfl rfl (YJ_loadL rfl tyi_3 (by repeat first | exact .head _ | apply List.Mem.tail) rfl) ?_ | refine AA_y 1 rfl (by kernel_rfl) rfl rfl rfl (YJ_loadFact rfl tyi_3 (by repeat first | exact .head _ | apply List.Mem.tail) rfl) ?_
  first | refine AA_y 2 rfl (by kernel_rfl) rfl rfl rfl (YJ_fieldOwn rfl fld_53_0 rfl) ?_ | refine AA_y 2 rfl (by kernel_rfl) rfl rfl rfl (YJ_fieldAddr rfl fld_53_0) ?_
  first | refine AA_y 3 rfl (by kernel_rfl) rfl rfl rfl (YJ_loadL rfl tyi_3 (by repeat first | exact .head _ | apply List.Mem.tail) rfl) ?_ | refine AA_y 3 rfl (by kernel_rfl) rfl rfl rfl (YJ_loadFact rfl tyi_3 (by repeat first | exact .head _ | apply List.Mem.tail) rfl) ?_
  first | refine AA_y 5 rfl (by kernel_rfl) rfl rfl rfl (YJ_fieldOwn rfl fld_53_1 rfl) ?_ | refine AA_y 5 rfl (by kernel_rfl) rfl rfl rfl (YJ_fieldAddr rfl fld_53_1) ?_
  first | refine AA_y 6 rfl (by kernel_rfl) rfl rfl rfl (YJ_loadL rfl tyi_3 (by repeat first | exact .head _ | apply List.Mem.tail) rfl) ?_ | refine AA_y 6 rfl (by kernel_rfl) rfl rfl rfl (YJ_loadFact rfl tyi_3 (by repeat first | exact .head _ | apply List.Mem.tail) rfl) ?_
  first | refine AA_y 7 rfl (by kernel_rfl) rfl rfl rfl (YJ_fieldOwn rfl fld_53_1 rfl) ?_ | refine AA_y 7 rfl (by kernel_rfl) rfl rfl rfl (YJ_fieldAddr rfl fld_53_1) ?_
  first | refine AA_y 8 rfl (by kernel_rfl) rfl rfl rfl (YJ_loadL rfl tyi_3 (by repeat first | exact .head _ | apply List.Mem.tail) rfl) ?_ | refine AA_y 8 rfl (by kernel_rfl) rfl rfl rfl (YJ_loadFact rfl tyi_3 (by repeat first | exact .head _ | apply List.Mem.tail) rfl) ?_
  refine AA_callX 4 rfl (by kernel_rfl) rfl rfl rfl rfl rfl rfl rfl (less_c ha.1 he.1) (AllIn.sub (by first | exact trivial | exact And.intro (by repeat first | exact .head _ | apply List.Mem.tail) trivial | exact And.intro (by repeat first | exact .head _ | apply List.Mem.tail) (And.intro (by repeat first | exact .head _ | apply List.Mem.tail) trivial))) ?_
  rintro ⟨A1, k1⟩ hcap1
  dsimp only at hcap1
  dsimp only [List.cons_append, List.nil_append]
  refine AA_callX 9 rfl (by kernel_rfl) rfl rfl rfl rfl rfl rfl rfl (less_c ha.2 he.2) (AllIn.sub (by first | exact trivial | exact And.intro (by repeat first | exact .head _ | apply List.Mem.tail) trivial | exact And.intro (by repeat first | exact .head _ | apply List.Mem.tail) (And.intro (by repeat first | exact .head _ | apply List.Mem.tail) trivial))) ?_
  rintro ⟨A2, k2⟩ hcap2
  dsimp only at hcap2
  dsimp only [List.cons_append, List.nil_append]
  refine AA_end (by kernel_rfl) rfl ?_
  intro bs hbs
  obtain ⟨b4, b5, rfl⟩ := len_2 hbs
  clear hbs
  show AJ _ _ _ _ _ _ _ ((5, .pointer (some ⟨b4, 0, none⟩)) :: (6, .pointer (some ⟨b5, 0, none⟩)) :: _) (cellsR b4 _ _ :: cellsR b5 _ _ :: _) _
  refine AJ_store (cs' := #[_, _]) (μ' := [_, _, _, _, _]) 12 0 rfl (by kernel_rfl) rfl rfl rfl rfl tyi_29 rfl (Nat.le_of_ble_eq_true rfl) rfl rfl rfl (fun _ => AllIn.sub (And.intro (by repeat first | exact .head _ | apply List.Mem.tail) (And.intro (by repeat first | exact .head _ | apply List.Mem.tail) (And.intro (by repeat first | exact .head _ | apply List.Mem.tail) (trivial))))) ?_
  refine AJ_store (cs' := #[_, _]) (μ' := [_, _, _, _, _]) 13 1 rfl (by kernel_rfl) rfl rfl rfl rfl tyi_29 rfl (Nat.le_of_ble_eq_true rfl) rfl rfl rfl (fun _ => AllIn.sub (And.intro (by repeat first | exact .head _ | apply List.Mem.tail) (And.intro (by repeat first | exact .head _ | apply List.Mem.tail) (And.intro (by repeat first | exact .head _ | apply List.Mem.tail) (trivial))))) ?_
  refine AJ_done (by kernel_rfl) ?_
  refine QJ_then ?_
  refine CJ_seq ?_
  refine CJ_regD mix (by kernel_rfl) (fun _ _ _ _ _ h => h) (selR [0, 1, 3, 4] _) _ (selR_sub _ _) (fun _ h => h) ?_
  first | refine AJ_y 0 rfl (by kernel_rfl) (by kernel_rfl) rfl rfl (YJ_loadN (vs := [_, _]) rfl tyi_29 (by repeat first | exact .head _ | apply List.Mem.tail) rfl rfl) ?_ | refine AJ_y 0 rfl (by kernel_rfl) (by kernel_rfl) rfl rfl (YJ_loadFactN (vs := [_, _]) rfl tyi_29 (by repeat first | exact .head _ | apply List.Mem.tail) rfl rfl) ?_
  first | refine AJ_y 1 rfl (by kernel_rfl) (by kernel_rfl) rfl rfl (YJ_loadN (vs := [_, _]) rfl tyi_29 (by repeat first | exact .head _ | apply List.Mem.tail) rfl rfl) ?_ | refine AJ_y 1 rfl (by kernel_rfl) (by kernel_rfl) rfl rfl (YJ_loadFactN (vs := [_, _]) rfl tyi_29 (by repeat first | exact .head _ | apply List.Mem.tail) rfl rfl) ?_
  first | refine AJ_y 3 rfl (by kernel_rfl) (by kernel_rfl) rfl rfl (YJ_loadN (vs := [_, _]) rfl tyi_29 (by repeat first | exact .head _ | apply List.Mem.tail) rfl rfl) ?_ | refine AJ_y 3 rfl (by kernel_rfl) (by kernel_rfl) rfl rfl (YJ_loadFactN (vs := [_, _]) rfl tyi_29 (by repeat first | exact .head _ | apply List.Mem.tail) rfl rfl) ?_
  first | refine AJ_y 4 rfl (by kernel_rfl) (by kernel_rfl) rfl rfl (YJ_loadN (vs := [_, _]) rfl tyi_29 (by repeat first | exact .head _ | apply List.Mem.tail) rfl rfl) ?_ | refine AJ_y 4 rfl (by kernel_rfl) (by kernel_rfl) rfl rfl (YJ_loadFactN (vs := [_, _]) rfl tyi_29 (by repeat first | exact .head _ | apply List.Mem.tail) rfl rfl) ?_
  refine AJ_callX 2 rfl (by kernel_rfl) rfl rfl rfl rfl rfl (nmul_c (a := (a1 - e1)) (b := (a1 - e1)) (Nat.le_trans (dl_r128 (Tm.d ha.1 he.1).i.r) (by decide)) (Nat.le_trans (dl_r128 (Tm.d ha.1 he.1).i.r) (by decide)) hcap1 hcap1) (AllIn.sub (And.intro (by repeat first | exact .head _ | apply List.Mem.tail) (And.intro (by repeat first | exact .head _ | apply List.Mem.tail) trivial))) ?_
  rintro ⟨A3, k3⟩ hcap3
  dsimp only at hcap3
  dsimp only [List.cons_append, List.nil_append]
  refine AJ_callX 5 rfl (by kernel_rfl) rfl rfl rfl rfl rfl (nmul_c (a := (a2 - e2)) (b := (a2 - e2)) (Nat.le_trans (dl_r128 (Tm.d ha.2 he.2).i.r) (by decide)) (Nat.le_trans (dl_r128 (Tm.d ha.2 he.2).i.r) (by decide)) hcap2 hcap2) (AllIn.sub (And.intro (by repeat first | exact .head _ | apply List.Mem.tail) (And.intro (by repeat first | exact .head _ | apply List.Mem.tail) trivial))) ?_
  rintro ⟨A4, k4⟩ hcap4
  dsimp only at hcap4
  dsimp only [List.cons_append, List.nil_append]
  refine AJ_callX 6 rfl (by kernel_rfl) rfl rfl rfl rfl rfl (nadd_c (a := ((a1 - e1) * (a1 - e1))) (b := ((a2 - e2) * (a2 - e2))) (Nat.le_trans (dl_mul (dl_r128 (Tm.d ha.1 he.1).i.r) (dl_r128 (Tm.d ha.1 he.1).i.r)) (by decide)) (Nat.le_trans (dl_mul (dl_r128 (Tm.d ha.2 he.2).i.r) (dl_r128 (Tm.d ha.2 he.2).i.r)) (by decide)) hcap3 hcap4) (AllIn.sub (And.intro (by repeat first | exact .head _ | apply List.Mem.tail) (And.intro (by repeat first | exact .head _ | apply List.Mem.tail) trivial))) ?_
  rintro ⟨A5, k5⟩ hcap5
  dsimp only at hcap5
  dsimp only [List.cons_append, List.nil_append]
  refine AJ_store (cs' := #[_, _]) (μ' := [_, _, _, _, _]) 7 2 rfl (by kernel_rfl) rfl rfl rfl rfl tyi_29 rfl (Nat.le_of_ble_eq_true rfl) rfl rfl rfl (fun _ => AllIn.sub (And.intro (by repeat first | exact .head _ | apply List.Mem.tail) (And.intro (by repeat first | exact .head _ | apply List.Mem.tail) (And.intro (by repeat first | exact .head _ | apply List.Mem.tail) (And.intro (by repeat first | exact .head _ | apply List.Mem.tail) (trivial)))))) ?_
  refine AJ_done (by kernel_rfl) ?_
  refine QJ_then ?_
  refine CJ_ret ?_
  refine QJ_fin (.inl rfl) (μ' := []) (μr := _) (φ' := [numF ((a1 - e1) * (a1 - e1) + (a2 - e2) * (a2 - e2)) A5]) (res_cell (vs := [_, _]) rfl rfl (by repeat first | exact .head _ | apply List.Mem.tail) tyi_29 rfl) (List.Perm.refl _) (AllIn.sub (And.intro (.head _) trivial)) ?_
  exact ⟨(A5, k5), hcap5, rfl, rfl, rfl⟩

set_option maxRecDepth 100000 in
set_option maxHeartbeats 1000000 in
theorem dist2_c {a1 a2 e1 e2 : Int} (ha : P2 a1 a2) (he : P2 e1 e2) : Tri Try.prog 49 [ptv a1 a2, ptv e1 e2] [] [] (RetN ((a1 - e1) * (a1 - e1) + (a2 - e2) * (a2 - e2))) := by
  refine Tri_of (N := 26) Try.func49 rfl ent_49 rfl rfl ?_
  intro w0 S0 T0
  show CJ _ _ _ [(0, _), (1, _)] _ _
  have tx := ha.1.d he.1
  have tY := ha.2.d he.2
  refine CJ_seq ?_
  refine CJ_reg ?_
  refine LJ_box (cs := #[_, _]) rfl rfl rfl rfl ?_
  intro b1
  refine LJ_box (cs := #[_, _]) rfl rfl rfl rfl ?_
  intro b2
  refine LJ_alloc (cs := #[_, _]) rfl rfl zer_29 rfl ?_
  intro b3
  refine LJ_nil ?_
  refine QJ_then ?_
  refine CJ_seq ?_
  refine CJ_regD mix (by kernel_rfl) (fun _ _ _ _ _ h => h) _ _ (fun _ h => h) (fun _ h => h) ?_
  first | refine AJ_y 0 rfl (by kernel_rfl) (by kernel_rfl) rfl rfl (YJ_fieldOwn rfl fld_53_0 rfl) ?_ | refine AJ_y 0 rfl (by kernel_rfl) (by kernel_rfl) rfl rfl (YJ_fieldAddr rfl fld_53_0) ?_
  first | refine AJ_y 1 rfl (by kernel_rfl) (by kernel_rfl) rfl rfl (YJ_loadL rfl tyi_3 (by repeat first | exact .head _ | apply List.Mem.tail) rfl) ?_ | refine AJ_y 1 rfl (by kernel_rfl) (by kernel_rfl) rfl rfl (YJ_loadFact rfl tyi_3 (by repeat first | exact .head _ | apply List.Mem.tail) rfl) ?_
  first | refine AJ_y 2 rfl (by kernel_rfl) (by kernel_rfl) rfl rfl (YJ_fieldOwn rfl fld_53_0 rfl) ?_ | refine AJ_y 2 rfl (by kernel_rfl) (by kernel_rfl) rfl rfl (YJ_fieldAddr rfl fld_53_0) ?_
  first | refine AJ_y 3 rfl (by kernel_rfl) (by kernel_rfl) rfl rfl (YJ_loadL rfl tyi_3 (by repeat first | exact .head _ | apply List.Mem.tail) rfl) ?_ | refine AJ_y 3 rfl (by kernel_rfl) (by kernel_rfl) rfl rfl (YJ_loadFact rfl tyi_3 (by repeat first | exact .head _ | apply List.Mem.tail) rfl) ?_
  refine AJ_y 4 rfl (by kernel_rfl) (by kernel_rfl) rfl rfl (YJ_bin rfl rfl (iop_sub (ha.1.i he.1))) ?_
  first | refine AJ_y 5 rfl (by kernel_rfl) (by kernel_rfl) rfl rfl (YJ_fieldOwn rfl fld_53_1 rfl) ?_ | refine AJ_y 5 rfl (by kernel_rfl) (by kernel_rfl) rfl rfl (YJ_fieldAddr rfl fld_53_1) ?_
  first | refine AJ_y 6 rfl (by kernel_rfl) (by kernel_rfl) rfl rfl (YJ_loadL rfl tyi_3 (by repeat first | exact .head _ | apply List.Mem.tail) rfl) ?_ | refine AJ_y 6 rfl (by kernel_rfl) (by kernel_rfl) rfl rfl (YJ_loadFact rfl tyi_3 (by repeat first | exact .head _ | apply List.Mem.tail) rfl) ?_
  first | refine AJ_y 7 rfl (by kernel_rfl) (by kernel_rfl) rfl rfl (YJ_fieldOwn rfl fld_53_1 rfl) ?_ | refine AJ_y 7 rfl (by kernel_rfl) (by kernel_rfl) rfl rfl (YJ_fieldAddr rfl fld_53_1) ?_
  first | refine AJ_y 8 rfl (by kernel_rfl) (by kernel_rfl) rfl rfl (YJ_loadL rfl tyi_3 (by repeat first | exact .head _ | apply List.Mem.tail) rfl) ?_ | refine AJ_y 8 rfl (by kernel_rfl) (by kernel_rfl) rfl rfl (YJ_loadFact rfl tyi_3 (by repeat first | exact .head _ | apply List.Mem.tail) rfl) ?_
  refine AJ_y 9 rfl (by kernel_rfl) (by kernel_rfl) rfl rfl (YJ_bin rfl rfl (iop_sub (ha.2.i he.2))) ?_
  refine AJ_y 10 rfl (by kernel_rfl) (by kernel_rfl) rfl rfl (YJ_assign rfl) ?_
  refine AJ_y 11 rfl (by kernel_rfl) (by kernel_rfl) rfl rfl (YJ_assign rfl) ?_
  refine AJ_done (by kernel_rfl) ?_
  refine QJ_then ?_
  refine CJ_seq ?_
  refine CJ_reg ?_
  refine LJ_y rfl rfl (YJ_move rfl) ?_
  refine LJ_y rfl rfl (YJ_move rfl) ?_
  refine LJ_callX rfl rfl rfl rfl rfl (wmul_c tx.i tx.i) (AllIn.sub (by first | exact trivial | exact And.intro (by repeat first | exact .head _ | apply List.Mem.tail) trivial | exact And.intro (by repeat first | exact .head _ | apply List.Mem.tail) (And.intro (by repeat first | exact .head _ | apply List.Mem.tail) trivial))) ?_
  rintro ⟨hiv, lov⟩ v
  dsimp only [wvP, List.cons_append, List.nil_append] at v ⊢
  refine LJ_callX rfl rfl rfl rfl rfl (wnum_c v (mul_r62 tx tx)) (AllIn.sub (by first | exact trivial | exact And.intro (by repeat first | exact .head _ | apply List.Mem.tail) trivial | exact And.intro (by repeat first | exact .head _ | apply List.Mem.tail) (And.intro (by repeat first | exact .head _ | apply List.Mem.tail) trivial))) ?_
  rintro ⟨A1, k1⟩ hcap1
  dsimp only at hcap1
  dsimp only [List.cons_append, List.nil_append]
  refine LJ_y rfl rfl (YJ_move rfl) ?_
  refine LJ_y rfl rfl (YJ_move rfl) ?_
  refine LJ_callX rfl rfl rfl rfl rfl (wmul_c tY.i tY.i) (AllIn.sub (by first | exact trivial | exact And.intro (by repeat first | exact .head _ | apply List.Mem.tail) trivial | exact And.intro (by repeat first | exact .head _ | apply List.Mem.tail) (And.intro (by repeat first | exact .head _ | apply List.Mem.tail) trivial))) ?_
  rintro ⟨hiw, low⟩ w
  dsimp only [wvP, List.cons_append, List.nil_append] at w ⊢
  refine LJ_callX rfl rfl rfl rfl rfl (wnum_c w (mul_r62 tY tY)) (AllIn.sub (by first | exact trivial | exact And.intro (by repeat first | exact .head _ | apply List.Mem.tail) trivial | exact And.intro (by repeat first | exact .head _ | apply List.Mem.tail) (And.intro (by repeat first | exact .head _ | apply List.Mem.tail) trivial))) ?_
  rintro ⟨A2, k2⟩ hcap2
  dsimp only at hcap2
  dsimp only [List.cons_append, List.nil_append]
  refine LJ_callX rfl rfl rfl rfl rfl (nadd_c (dl_big (mul_r62 tx tx)) (dl_big (mul_r62 tY tY)) hcap1 hcap2) (AllIn.sub (And.intro (by repeat first | exact .head _ | apply List.Mem.tail) (And.intro (by repeat first | exact .head _ | apply List.Mem.tail) trivial))) ?_
  rintro ⟨A3, k3⟩ hcap3
  dsimp only at hcap3
  dsimp only [List.cons_append, List.nil_append]
  refine LJ_store (cs' := #[_, _]) (μ' := [_, _, _]) 0 rfl rfl rfl rfl tyi_29 rfl (Nat.le_of_ble_eq_true rfl) rfl rfl rfl ?_
  refine LJ_nil ?_
  refine QJ_then ?_
  refine CJ_ret ?_
  refine QJ_fin (.inl rfl) (μ' := []) (μr := _) (φ' := [numF ((a1 - e1) * (a1 - e1) + (a2 - e2) * (a2 - e2)) A3]) (res_cell (vs := [_, _]) rfl rfl (by repeat first | exact .head _ | apply List.Mem.tail) tyi_29 rfl) (List.Perm.refl _) (AllIn.sub (And.intro (.head _) trivial)) ?_
  exact ⟨(A3, k3), hcap3, rfl, rfl, rfl⟩


/-- a point lies on a line, as the program asks it -/
def OnL (p1 p2 a1 a2 e1 e2 : Int) : Prop := sgn (A2 a1 a2 e1 e2 p1 p2) = 0 ∧ min a1 e1 ≤ p1 ∧ p1 ≤ max a1 e1 ∧ min a2 e2 ≤ p2 ∧ p2 ≤ max a2 e2
instance (p1 p2 a1 a2 e1 e2 : Int) : Decidable (OnL p1 p2 a1 a2 e1 e2) := inferInstanceAs (Decidable (_ ∧ _))
def Crs (a1 a2 e1 e2 c1 c2 d1 d2 : Int) : Prop := sgn (A2 a1 a2 e1 e2 c1 c2) * sgn (A2 a1 a2 e1 e2 d1 d2) < 0 ∧ sgn (A2 c1 c2 d1 d2 a1 a2) * sgn (A2 c1 c2 d1 d2 e1 e2) < 0
instance (a1 a2 e1 e2 c1 c2 d1 d2 : Int) : Decidable (Crs a1 a2 e1 e2 c1 c2 d1 d2) := inferInstanceAs (Decidable (_ ∧ _))
def Mts (a1 a2 e1 e2 c1 c2 d1 d2 : Int) : Prop := Crs a1 a2 e1 e2 c1 c2 d1 d2 ∨ OnL a1 a2 c1 c2 d1 d2 ∨ OnL e1 e2 c1 c2 d1 d2 ∨ OnL c1 c2 a1 a2 e1 e2 ∨ OnL d1 d2 a1 a2 e1 e2
instance (a1 a2 e1 e2 c1 c2 d1 d2 : Int) : Decidable (Mts a1 a2 e1 e2 c1 c2 d1 d2) := inferInstanceAs (Decidable (_ ∨ _))
def Btw (p1 p2 a1 a2 e1 e2 : Int) : Prop := ¬ (p1 = a1 ∧ p2 = a2) ∧ ¬ (p1 = e1 ∧ p2 = e2) ∧ OnL p1 p2 a1 a2 e1 e2
instance (p1 p2 a1 a2 e1 e2 : Int) : Decidable (Btw p1 p2 a1 a2 e1 e2) := inferInstanceAs (Decidable (_ ∧ _))
theorem eqs_neq_53 (a b c d : Int) (x y : Operand) (w : World) :
    (do eqGuard .neq 53 x y (.agg #[.int .i64 a, .int .i64 b]) (.agg #[.int .i64 c, .int .i64 d]); binOp .neq 53 (.agg #[.int .i64 a, .int .i64 b]) (.agg #[.int .i64 c, .int .i64 d]) : Sem Value).run Try.prog w = .ok (.bool (!(decide (a = c) && decide (b = d)))) w := by
  have hf : Try.prog.underlying 53 = some (.struct (Try.prog.fieldsOf 53)) := by kernel_rfl
  simp only [Sem.run_bind]
  rw [run_eqGuard_agg w .neq 53 x y _ _ (by kernel_rfl)]
  simp only [Result.andThen_ok, run_neq_struct]
  rw [show (10000 : Nat) = 9999 + 1 from rfl, run_equalIn_agg w 9999 53 _ _ hf (by kernel_rfl)]
  simp [go_sem]
  by_cases h1 : a = c <;> by_cases h2 : b = d <;> simp [h1, h2]
theorem eqs_eql_53 (a b c d : Int) (x y : Operand) (w : World) :
    (do eqGuard .eql 53 x y (.agg #[.int .i64 a, .int .i64 b]) (.agg #[.int .i64 c, .int .i64 d]); binOp .eql 53 (.agg #[.int .i64 a, .int .i64 b]) (.agg #[.int .i64 c, .int .i64 d]) : Sem Value).run Try.prog w = .ok (.bool (decide (a = c) && decide (b = d))) w := by
  have hf : Try.prog.underlying 53 = some (.struct (Try.prog.fieldsOf 53)) := by kernel_rfl
  simp only [Sem.run_bind]
  rw [run_eqGuard_agg w .eql 53 x y _ _ (by kernel_rfl)]
  simp only [Result.andThen_ok, run_eql_struct]
  rw [show (10000 : Nat) = 9999 + 1 from rfl, run_equalIn_agg w 9999 53 _ _ hf (by kernel_rfl)]
  simp [go_sem]
  by_cases h1 : a = c <;> by_cases h2 : b = d <;> simp [h1, h2]


set_option maxRecDepth 100000 in
set_option maxHeartbeats 4000000 in
theorem on_c {p1 p2 a1 a2 e1 e2 : Int} (hp : P2 p1 p2) (ha : P2 a1 a2) (he : P2 e1 e2) : Tri Try.prog 42 [ptv p1 p2, ptv a1 a2, ptv e1 e2] [] [] (Ret0 (.bool (decide (OnL p1 p2 a1 a2 e1 e2)))) := by
  refine Tri_of (N := 52) Try.func42 rfl ent_42 rfl rfl ?_
  intro w0 S0 T0
  show CJ _ _ _ [(0, _), (1, _), (2, _)] _ _
  refine CJ_seq ?_
  refine CJ_reg ?_
  refine LJ_box (cs := #[_, _]) rfl rfl rfl rfl ?_
  intro b1
  refine LJ_box (cs := #[_, _]) rfl rfl rfl rfl ?_
  intro b2
  refine LJ_box (cs := #[_, _]) rfl rfl rfl rfl ?_
  intro b3
  refine LJ_y rfl rfl (YJ_assign rfl) ?_
  refine LJ_nil ?_
  refine QJ_then ?_
  refine CJ_seq ?_
  refine CJ_reg ?_
  first | refine LJ_y rfl rfl (YJ_loadN (vs := [_, _]) rfl tyi_53 (by repeat first | exact .head _ | apply List.Mem.tail) rfl rfl) ?_ | refine LJ_y rfl rfl (YJ_loadFactN (vs := [_, _]) rfl tyi_53 (by repeat first | exact .head _ | apply List.Mem.tail) rfl rfl) ?_
  first | refine LJ_y rfl rfl (YJ_loadN (vs := [_, _]) rfl tyi_53 (by repeat first | exact .head _ | apply List.Mem.tail) rfl rfl) ?_ | refine LJ_y rfl rfl (YJ_loadFactN (vs := [_, _]) rfl tyi_53 (by repeat first | exact .head _ | apply List.Mem.tail) rfl rfl) ?_
  first | refine LJ_y rfl rfl (YJ_loadN (vs := [_, _]) rfl tyi_53 (by repeat first | exact .head _ | apply List.Mem.tail) rfl rfl) ?_ | refine LJ_y rfl rfl (YJ_loadFactN (vs := [_, _]) rfl tyi_53 (by repeat first | exact .head _ | apply List.Mem.tail) rfl rfl) ?_
  refine LJ_call0 rfl rfl rfl rfl rfl (orient_c ha he hp) (AllIn.sub (by first | exact trivial | exact And.intro (by repeat first | exact .head _ | apply List.Mem.tail) trivial | exact And.intro (by repeat first | exact .head _ | apply List.Mem.tail) (And.intro (by repeat first | exact .head _ | apply List.Mem.tail) trivial))) ?_
  refine LJ_y rfl rfl (YJ_bin rfl rfl rfl) ?_
  refine LJ_y rfl rfl (YJ_move rfl) ?_
  refine LJ_boolC (fun h12 => ?_) (fun h12 => ?_)
  · try simp only [decide_eq_true_eq, decide_eq_false_iff_not, Bool.not_eq_true', Bool.not_eq_false', Bool.and_eq_true, Bool.and_eq_false_iff, beq_iff_eq, bne_iff_ne, beq_eq_false_iff_ne, bne_eq_false_iff_eq, ne_eq, decide_eq_decide] at h12
    first | refine LJ_y rfl rfl (YJ_fieldOwn rfl fld_53_0 rfl) ?_ | refine LJ_y rfl rfl (YJ_fieldAddr rfl fld_53_0) ?_
    first | refine LJ_y rfl rfl (YJ_loadL rfl tyi_3 (by repeat first | exact .head _ | apply List.Mem.tail) rfl) ?_ | refine LJ_y rfl rfl (YJ_loadFact rfl tyi_3 (by repeat first | exact .head _ | apply List.Mem.tail) rfl) ?_
    first | refine LJ_y rfl rfl (YJ_fieldOwn rfl fld_53_0 rfl) ?_ | refine LJ_y rfl rfl (YJ_fieldAddr rfl fld_53_0) ?_
    first | refine LJ_y rfl rfl (YJ_loadL rfl tyi_3 (by repeat first | exact .head _ | apply List.Mem.tail) rfl) ?_ | refine LJ_y rfl rfl (YJ_loadFact rfl tyi_3 (by repeat first | exact .head _ | apply List.Mem.tail) rfl) ?_
    refine LJ_y rfl rfl (YJ_min2 rfl rfl) ?_
    first | refine LJ_y rfl rfl (YJ_fieldOwn rfl fld_53_0 rfl) ?_ | refine LJ_y rfl rfl (YJ_fieldAddr rfl fld_53_0) ?_
    first | refine LJ_y rfl rfl (YJ_loadL rfl tyi_3 (by repeat first | exact .head _ | apply List.Mem.tail) rfl) ?_ | refine LJ_y rfl rfl (YJ_loadFact rfl tyi_3 (by repeat first | exact .head _ | apply List.Mem.tail) rfl) ?_
    refine LJ_y rfl rfl (YJ_bin rfl rfl rfl) ?_
    refine LJ_y rfl rfl (YJ_pickT rfl rfl) ?_
    refine LJ_y rfl rfl (YJ_move rfl) ?_
    refine LJ_boolC (fun h22 => ?_) (fun h22 => ?_)
    · try simp only [decide_eq_true_eq, decide_eq_false_iff_not, Bool.not_eq_true', Bool.not_eq_false', Bool.and_eq_true, Bool.and_eq_false_iff, beq_iff_eq, bne_iff_ne, beq_eq_false_iff_ne, bne_eq_false_iff_eq, ne_eq, decide_eq_decide] at h22
      first | refine LJ_y rfl rfl (YJ_fieldOwn rfl fld_53_0 rfl) ?_ | refine LJ_y rfl rfl (YJ_fieldAddr rfl fld_53_0) ?_
      first | refine LJ_y rfl rfl (YJ_loadL rfl tyi_3 (by repeat first | exact .head _ | apply List.Mem.tail) rfl) ?_ | refine LJ_y rfl rfl (YJ_loadFact rfl tyi_3 (by repeat first | exact .head _ | apply List.Mem.tail) rfl) ?_
      first | refine LJ_y rfl rfl (YJ_fieldOwn rfl fld_53_0 rfl) ?_ | refine LJ_y rfl rfl (YJ_fieldAddr rfl fld_53_0) ?_
      first | refine LJ_y rfl rfl (YJ_loadL rfl tyi_3 (by repeat first | exact .head _ | apply List.Mem.tail) rfl) ?_ | refine LJ_y rfl rfl (YJ_loadFact rfl tyi_3 (by repeat first | exact .head _ | apply List.Mem.tail) rfl) ?_
      first | refine LJ_y rfl rfl (YJ_fieldOwn rfl fld_53_0 rfl) ?_ | refine LJ_y rfl rfl (YJ_fieldAddr rfl fld_53_0) ?_
      first | refine LJ_y rfl rfl (YJ_loadL rfl tyi_3 (by repeat first | exact .head _ | apply List.Mem.tail) rfl) ?_ | refine LJ_y rfl rfl (YJ_loadFact rfl tyi_3 (by repeat first | exact .head _ | apply List.Mem.tail) rfl) ?_
      refine LJ_y rfl rfl (YJ_max2 rfl rfl) ?_
      refine LJ_y rfl rfl (YJ_bin rfl rfl rfl) ?_
      refine LJ_y rfl rfl (YJ_pickT rfl rfl) ?_
      refine LJ_y rfl rfl (YJ_move rfl) ?_
      refine LJ_boolC (fun h32 => ?_) (fun h32 => ?_)
      · try simp only [decide_eq_true_eq, decide_eq_false_iff_not, Bool.not_eq_true', Bool.not_eq_false', Bool.and_eq_true, Bool.and_eq_false_iff, beq_iff_eq, bne_iff_ne, beq_eq_false_iff_ne, bne_eq_false_iff_eq, ne_eq, decide_eq_decide] at h32
        first | refine LJ_y rfl rfl (YJ_fieldOwn rfl fld_53_1 rfl) ?_ | refine LJ_y rfl rfl (YJ_fieldAddr rfl fld_53_1) ?_
        first | refine LJ_y rfl rfl (YJ_loadL rfl tyi_3 (by repeat first | exact .head _ | apply List.Mem.tail) rfl) ?_ | refine LJ_y rfl rfl (YJ_loadFact rfl tyi_3 (by repeat first | exact .head _ | apply List.Mem.tail) rfl) ?_
        first | refine LJ_y rfl rfl (YJ_fieldOwn rfl fld_53_1 rfl) ?_ | refine LJ_y rfl rfl (YJ_fieldAddr rfl fld_53_1) ?_
        first | refine LJ_y rfl rfl (YJ_loadL rfl tyi_3 (by repeat first | exact .head _ | apply List.Mem.tail) rfl) ?_ | refine LJ_y rfl rfl (YJ_loadFact rfl tyi_3 (by repeat first | exact .head _ | apply List.Mem.tail) rfl) ?_
        refine LJ_y rfl rfl (YJ_min2 rfl rfl) ?_
        first | refine LJ_y rfl rfl (YJ_fieldOwn rfl fld_53_1 rfl) ?_ | refine LJ_y rfl rfl (YJ_fieldAddr rfl fld_53_1) ?_
        first | refine LJ_y rfl rfl (YJ_loadL rfl tyi_3 (by repeat first | exact .head _ | apply List.Mem.tail) rfl) ?_ | refine LJ_y rfl rfl (YJ_loadFact rfl tyi_3 (by repeat first | exact .head _ | apply List.Mem.tail) rfl) ?_
        refine LJ_y rfl rfl (YJ_bin rfl rfl rfl) ?_
        refine LJ_y rfl rfl (YJ_pickT rfl rfl) ?_
        refine LJ_y rfl rfl (YJ_move rfl) ?_
        refine LJ_boolC (fun h42 => ?_) (fun h42 => ?_)
        · try simp only [decide_eq_true_eq, decide_eq_false_iff_not, Bool.not_eq_true', Bool.not_eq_false', Bool.and_eq_true, Bool.and_eq_false_iff, beq_iff_eq, bne_iff_ne, beq_eq_false_iff_ne, bne_eq_false_iff_eq, ne_eq, decide_eq_decide] at h42
          first | refine LJ_y rfl rfl (YJ_fieldOwn rfl fld_53_1 rfl) ?_ | refine LJ_y rfl rfl (YJ_fieldAddr rfl fld_53_1) ?_
          first | refine LJ_y rfl rfl (YJ_loadL rfl tyi_3 (by repeat first | exact .head _ | apply List.Mem.tail) rfl) ?_ | refine LJ_y rfl rfl (YJ_loadFact rfl tyi_3 (by repeat first | exact .head _ | apply List.Mem.tail) rfl) ?_
          first | refine LJ_y rfl rfl (YJ_fieldOwn rfl fld_53_1 rfl) ?_ | refine LJ_y rfl rfl (YJ_fieldAddr rfl fld_53_1) ?_
          first | refine LJ_y rfl rfl (YJ_loadL rfl tyi_3 (by repeat first | exact .head _ | apply List.Mem.tail) rfl) ?_ | refine LJ_y rfl rfl (YJ_loadFact rfl tyi_3 (by repeat first | exact .head _ | apply List.Mem.tail) rfl) ?_
          first | refine LJ_y rfl rfl (YJ_fieldOwn rfl fld_53_1 rfl) ?_ | refine LJ_y rfl rfl (YJ_fieldAddr rfl fld_53_1) ?_
          first | refine LJ_y rfl rfl (YJ_loadL rfl tyi_3 (by repeat first | exact .head _ | apply List.Mem.tail) rfl) ?_ | refine LJ_y rfl rfl (YJ_loadFact rfl tyi_3 (by repeat first | exact .head _ | apply List.Mem.tail) rfl) ?_
          refine LJ_y rfl rfl (YJ_max2 rfl rfl) ?_
          refine LJ_y rfl rfl (YJ_bin rfl rfl rfl) ?_
          refine LJ_y rfl rfl (YJ_pickT rfl rfl) ?_
          refine LJ_y rfl rfl (YJ_assign rfl) ?_
          refine LJ_nil ?_
          refine QJ_then ?_
          refine CJ_ret ?_
          refine QJ_fin (.inl rfl) (μ' := []) (μr := _) (φ' := []) (res_tmp rfl rfl) (List.Perm.refl _) (fun _ h => nomatch h) ?_
          exact ⟨congrArg Value.bool (by first | (rw [decide_eq_decide]; unfold OnL; omega) | (symm; rw [decide_eq_false_iff_not]; unfold OnL; omega)), rfl, rfl⟩
        · try simp only [decide_eq_true_eq, decide_eq_false_iff_not, Bool.not_eq_true', Bool.not_eq_false', Bool.and_eq_true, Bool.and_eq_false_iff, beq_iff_eq, bne_iff_ne, beq_eq_false_iff_ne, bne_eq_false_iff_eq, ne_eq, decide_eq_decide] at h42
          refine LJ_skip rfl rfl ?_
          refine LJ_skip rfl rfl ?_
          refine LJ_skip rfl rfl ?_
          refine LJ_skip rfl rfl ?_
          refine LJ_skip rfl rfl ?_
          refine LJ_skip rfl rfl ?_
          refine LJ_skip rfl rfl ?_
          refine LJ_skip rfl rfl ?_
          refine LJ_y rfl rfl (YJ_pickF rfl rfl) ?_
          refine LJ_y rfl rfl (YJ_assign rfl) ?_
          refine LJ_nil ?_
          refine QJ_then ?_
          refine CJ_ret ?_
          refine QJ_fin (.inl rfl) (μ' := []) (μr := _) (φ' := []) (res_tmp rfl rfl) (List.Perm.refl _) (fun _ h => nomatch h) ?_
          exact ⟨congrArg Value.bool (by first | (rw [decide_eq_decide]; unfold OnL; omega) | (symm; rw [decide_eq_false_iff_not]; unfold OnL; omega)), rfl, rfl⟩
      · try simp only [decide_eq_true_eq, decide_eq_false_iff_not, Bool.not_eq_true', Bool.not_eq_false', Bool.and_eq_true, Bool.and_eq_false_iff, beq_iff_eq, bne_iff_ne, beq_eq_false_iff_ne, bne_eq_false_iff_eq, ne_eq, decide_eq_decide] at h32
        refine LJ_skip rfl rfl ?_
        refine LJ_skip rfl rfl ?_
        refine LJ_skip rfl rfl ?_
        refine LJ_skip rfl rfl ?_
        refine LJ_skip rfl rfl ?_
        refine LJ_skip rfl rfl ?_
        refine LJ_skip rfl rfl ?_
        refine LJ_skip rfl rfl ?_
        refine LJ_y rfl rfl (YJ_pickF rfl rfl) ?_
        refine LJ_y rfl rfl (YJ_move rfl) ?_
        refine LJ_skip rfl rfl ?_
        refine LJ_skip rfl rfl ?_
        refine LJ_skip rfl rfl ?_
        refine LJ_skip rfl rfl ?_
        refine LJ_skip rfl rfl ?_
        refine LJ_skip rfl rfl ?_
        refine LJ_skip rfl rfl ?_
        refine LJ_skip rfl rfl ?_
        refine LJ_y rfl rfl (YJ_pickF rfl rfl) ?_
        refine LJ_y rfl rfl (YJ_assign rfl) ?_
        refine LJ_nil ?_
        refine QJ_then ?_
        refine CJ_ret ?_
        refine QJ_fin (.inl rfl) (μ' := []) (μr := _) (φ' := []) (res_tmp rfl rfl) (List.Perm.refl _) (fun _ h => nomatch h) ?_
        exact ⟨congrArg Value.bool (by first | (rw [decide_eq_decide]; unfold OnL; omega) | (symm; rw [decide_eq_false_iff_not]; unfold OnL; omega)), rfl, rfl⟩
    · try simp only [decide_eq_true_eq, decide_eq_false_iff_not, Bool.not_eq_true', Bool.not_eq_false', Bool.and_eq_true, Bool.and_eq_false_iff, beq_iff_eq, bne_iff_ne, beq_eq_false_iff_ne, bne_eq_false_iff_eq, ne_eq, decide_eq_decide] at h22
      refine LJ_skip rfl rfl ?_
      refine LJ_skip rfl rfl ?_
      refine LJ_skip rfl rfl ?_
      refine LJ_skip rfl rfl ?_
      refine LJ_skip rfl rfl ?_
      refine LJ_skip rfl rfl ?_
      refine LJ_skip rfl rfl ?_
      refine LJ_skip rfl rfl ?_
      refine LJ_y rfl rfl (YJ_pickF rfl rfl) ?_
      refine LJ_y rfl rfl (YJ_move rfl) ?_
      refine LJ_skip rfl rfl ?_
      refine LJ_skip rfl rfl ?_
      refine LJ_skip rfl rfl ?_
      refine LJ_skip rfl rfl ?_
      refine LJ_skip rfl rfl ?_
      refine LJ_skip rfl rfl ?_
      refine LJ_skip rfl rfl ?_
      refine LJ_skip rfl rfl ?_
      refine LJ_y rfl rfl (YJ_pickF rfl rfl) ?_
      refine LJ_y rfl rfl (YJ_move rfl) ?_
      refine LJ_skip rfl rfl ?_
      refine LJ_skip rfl rfl ?_
      refine LJ_skip rfl rfl ?_
      refine LJ_skip rfl rfl ?_
      refine LJ_skip rfl rfl ?_
      refine LJ_skip rfl rfl ?_
      refine LJ_skip rfl rfl ?_
      refine LJ_skip rfl rfl ?_
      refine LJ_y rfl rfl (YJ_pickF rfl rfl) ?_
      refine LJ_y rfl rfl (YJ_assign rfl) ?_
      refine LJ_nil ?_
      refine QJ_then ?_
      refine CJ_ret ?_
      refine QJ_fin (.inl rfl) (μ' := []) (μr := _) (φ' := []) (res_tmp rfl rfl) (List.Perm.refl _) (fun _ h => nomatch h) ?_
      exact ⟨congrArg Value.bool (by first | (rw [decide_eq_decide]; unfold OnL; omega) | (symm; rw [decide_eq_false_iff_not]; unfold OnL; omega)), rfl, rfl⟩
  · try simp only [decide_eq_true_eq, decide_eq_false_iff_not, Bool.not_eq_true', Bool.not_eq_false', Bool.and_eq_true, Bool.and_eq_false_iff, beq_iff_eq, bne_iff_ne, beq_eq_false_iff_ne, bne_eq_false_iff_eq, ne_eq, decide_eq_decide] at h12
    refine LJ_skip rfl rfl ?_
    refine LJ_skip rfl rfl ?_
    refine LJ_skip rfl rfl ?_
    refine LJ_skip rfl rfl ?_
    refine LJ_skip rfl rfl ?_
    refine LJ_skip rfl rfl ?_
    refine LJ_skip rfl rfl ?_
    refine LJ_skip rfl rfl ?_
    refine LJ_y rfl rfl (YJ_pickF rfl rfl) ?_
    refine LJ_y rfl rfl (YJ_move rfl) ?_
    refine LJ_skip rfl rfl ?_
    refine LJ_skip rfl rfl ?_
    refine LJ_skip rfl rfl ?_
    refine LJ_skip rfl rfl ?_
    refine LJ_skip rfl rfl ?_
    refine LJ_skip rfl rfl ?_
    refine LJ_skip rfl rfl ?_
    refine LJ_skip rfl rfl ?_
    refine LJ_y rfl rfl (YJ_pickF rfl rfl) ?_
    refine LJ_y rfl rfl (YJ_move rfl) ?_
    refine LJ_skip rfl rfl ?_
    refine LJ_skip rfl rfl ?_
    refine LJ_skip rfl rfl ?_
    refine LJ_skip rfl rfl ?_
    refine LJ_skip rfl rfl ?_
    refine LJ_skip rfl rfl ?_
    refine LJ_skip rfl rfl ?_
    refine LJ_skip rfl rfl ?_
    refine LJ_y rfl rfl (YJ_pickF rfl rfl) ?_
    refine LJ_y rfl rfl (YJ_move rfl) ?_
    refine LJ_skip rfl rfl ?_
    refine LJ_skip rfl rfl ?_
    refine LJ_skip rfl rfl ?_
    refine LJ_skip rfl rfl ?_
    refine LJ_skip rfl rfl ?_
    refine LJ_skip rfl rfl ?_
    refine LJ_skip rfl rfl ?_
    refine LJ_skip rfl rfl ?_
    refine LJ_y rfl rfl (YJ_pickF rfl rfl) ?_
    refine LJ_y rfl rfl (YJ_assign rfl) ?_
    refine LJ_nil ?_
    refine QJ_then ?_
    refine CJ_ret ?_
    refine QJ_fin (.inl rfl) (μ' := []) (μr := _) (φ' := []) (res_tmp rfl rfl) (List.Perm.refl _) (fun _ h => nomatch h) ?_
    exact ⟨congrArg Value.bool (by first | (rw [decide_eq_decide]; unfold OnL; omega) | (symm; rw [decide_eq_false_iff_not]; unfold OnL; omega)), rfl, rfl⟩

set_option maxRecDepth 100000 in
set_option maxHeartbeats 1000000 in
theorem between_c {p1 p2 a1 a2 e1 e2 : Int} (hp : P2 p1 p2) (ha : P2 a1 a2) (he : P2 e1 e2) : Tri Try.prog 48 [ptv p1 p2, ptv a1 a2, ptv e1 e2] [] [] (Ret0 (.bool (decide (Btw p1 p2 a1 a2 e1 e2)))) := by
  refine Tri_of (N := 21) Try.func48 rfl ent_48 rfl rfl ?_
  intro w0 S0 T0
  show CJ _ _ _ [(0, _), (1, _), (2, _)] _ _
  refine CJ_seq ?_
  refine CJ_reg ?_
  refine LJ_box (cs := #[_, _]) rfl rfl rfl rfl ?_
  intro b1
  refine LJ_box (cs := #[_, _]) rfl rfl rfl rfl ?_
  intro b2
  refine LJ_box (cs := #[_, _]) rfl rfl rfl rfl ?_
  intro b3
  refine LJ_y rfl rfl (YJ_assign rfl) ?_
  refine LJ_nil ?_
  refine QJ_then ?_
  refine CJ_seq ?_
  refine CJ_reg ?_
  first | refine LJ_y rfl rfl (YJ_loadN (vs := [_, _]) rfl tyi_53 (by repeat first | exact .head _ | apply List.Mem.tail) rfl rfl) ?_ | refine LJ_y rfl rfl (YJ_loadFactN (vs := [_, _]) rfl tyi_53 (by repeat first | exact .head _ | apply List.Mem.tail) rfl rfl) ?_
  first | refine LJ_y rfl rfl (YJ_loadN (vs := [_, _]) rfl tyi_53 (by repeat first | exact .head _ | apply List.Mem.tail) rfl rfl) ?_ | refine LJ_y rfl rfl (YJ_loadFactN (vs := [_, _]) rfl tyi_53 (by repeat first | exact .head _ | apply List.Mem.tail) rfl rfl) ?_
  refine LJ_y rfl rfl (YJ_eqs rfl rfl (fun _ => eqs_neq_53 ..)) ?_
  refine LJ_y rfl rfl (YJ_move rfl) ?_
  refine LJ_boolC (fun h10 => ?_) (fun h10 => ?_)
  · try simp only [decide_eq_true_eq, decide_eq_false_iff_not, Bool.not_eq_true', Bool.not_eq_false', Bool.and_eq_true, Bool.and_eq_false_iff, beq_iff_eq, bne_iff_ne, beq_eq_false_iff_ne, bne_eq_false_iff_eq, ne_eq, decide_eq_decide] at h10
    first | refine LJ_y rfl rfl (YJ_loadN (vs := [_, _]) rfl tyi_53 (by repeat first | exact .head _ | apply List.Mem.tail) rfl rfl) ?_ | refine LJ_y rfl rfl (YJ_loadFactN (vs := [_, _]) rfl tyi_53 (by repeat first | exact .head _ | apply List.Mem.tail) rfl rfl) ?_
    first | refine LJ_y rfl rfl (YJ_loadN (vs := [_, _]) rfl tyi_53 (by repeat first | exact .head _ | apply List.Mem.tail) rfl rfl) ?_ | refine LJ_y rfl rfl (YJ_loadFactN (vs := [_, _]) rfl tyi_53 (by repeat first | exact .head _ | apply List.Mem.tail) rfl rfl) ?_
    refine LJ_y rfl rfl (YJ_eqs rfl rfl (fun _ => eqs_neq_53 ..)) ?_
    refine LJ_y rfl rfl (YJ_pickT rfl rfl) ?_
    refine LJ_y rfl rfl (YJ_move rfl) ?_
    refine LJ_boolC (fun h15 => ?_) (fun h15 => ?_)
    · try simp only [decide_eq_true_eq, decide_eq_false_iff_not, Bool.not_eq_true', Bool.not_eq_false', Bool.and_eq_true, Bool.and_eq_false_iff, beq_iff_eq, bne_iff_ne, beq_eq_false_iff_ne, bne_eq_false_iff_eq, ne_eq, decide_eq_decide] at h15
      first | refine LJ_y rfl rfl (YJ_loadN (vs := [_, _]) rfl tyi_53 (by repeat first | exact .head _ | apply List.Mem.tail) rfl rfl) ?_ | refine LJ_y rfl rfl (YJ_loadFactN (vs := [_, _]) rfl tyi_53 (by repeat first | exact .head _ | apply List.Mem.tail) rfl rfl) ?_
      first | refine LJ_y rfl rfl (YJ_loadN (vs := [_, _]) rfl tyi_53 (by repeat first | exact .head _ | apply List.Mem.tail) rfl rfl) ?_ | refine LJ_y rfl rfl (YJ_loadFactN (vs := [_, _]) rfl tyi_53 (by repeat first | exact .head _ | apply List.Mem.tail) rfl rfl) ?_
      first | refine LJ_y rfl rfl (YJ_loadN (vs := [_, _]) rfl tyi_53 (by repeat first | exact .head _ | apply List.Mem.tail) rfl rfl) ?_ | refine LJ_y rfl rfl (YJ_loadFactN (vs := [_, _]) rfl tyi_53 (by repeat first | exact .head _ | apply List.Mem.tail) rfl rfl) ?_
      refine LJ_call0 rfl rfl rfl rfl rfl (on_c hp ha he) (AllIn.sub (by first | exact trivial | exact And.intro (by repeat first | exact .head _ | apply List.Mem.tail) trivial | exact And.intro (by repeat first | exact .head _ | apply List.Mem.tail) (And.intro (by repeat first | exact .head _ | apply List.Mem.tail) trivial))) ?_
      refine LJ_y rfl rfl (YJ_pickT rfl rfl) ?_
      refine LJ_y rfl rfl (YJ_assign rfl) ?_
      refine LJ_nil ?_
      refine QJ_then ?_
      refine CJ_ret ?_
      refine QJ_fin (.inl rfl) (μ' := []) (μr := _) (φ' := []) (res_tmp rfl rfl) (List.Perm.refl _) (fun _ h => nomatch h) ?_
      exact ⟨congrArg Value.bool (by symm; rw [decide_eq_decide]; exact ⟨fun h => h.2.2, fun h => ⟨by omega, by omega, h⟩⟩), rfl, rfl⟩
    · try simp only [decide_eq_true_eq, decide_eq_false_iff_not, Bool.not_eq_true', Bool.not_eq_false', Bool.and_eq_true, Bool.and_eq_false_iff, beq_iff_eq, bne_iff_ne, beq_eq_false_iff_ne, bne_eq_false_iff_eq, ne_eq, decide_eq_decide] at h15
      refine LJ_skip rfl rfl ?_
      refine LJ_skip rfl rfl ?_
      refine LJ_skip rfl rfl ?_
      refine LJ_skip rfl rfl ?_
      refine LJ_y rfl rfl (YJ_pickF rfl rfl) ?_
      refine LJ_y rfl rfl (YJ_assign rfl) ?_
      refine LJ_nil ?_
      refine QJ_then ?_
      refine CJ_ret ?_
      refine QJ_fin (.inl rfl) (μ' := []) (μr := _) (φ' := []) (res_tmp rfl rfl) (List.Perm.refl _) (fun _ h => nomatch h) ?_
      exact ⟨congrArg Value.bool (by first | (rw [decide_eq_decide]; unfold Btw; omega) | (symm; rw [decide_eq_false_iff_not]; unfold Btw; omega)), rfl, rfl⟩
  · try simp only [decide_eq_true_eq, decide_eq_false_iff_not, Bool.not_eq_true', Bool.not_eq_false', Bool.and_eq_true, Bool.and_eq_false_iff, beq_iff_eq, bne_iff_ne, beq_eq_false_iff_ne, bne_eq_false_iff_eq, ne_eq, decide_eq_decide] at h10
    refine LJ_skip rfl rfl ?_
    refine LJ_skip rfl rfl ?_
    refine LJ_skip rfl rfl ?_
    refine LJ_y rfl rfl (YJ_pickF rfl rfl) ?_
    refine LJ_y rfl rfl (YJ_move rfl) ?_
    refine LJ_skip rfl rfl ?_
    refine LJ_skip rfl rfl ?_
    refine LJ_skip rfl rfl ?_
    refine LJ_skip rfl rfl ?_
    refine LJ_y rfl rfl (YJ_pickF rfl rfl) ?_
    refine LJ_y rfl rfl (YJ_assign rfl) ?_
    refine LJ_nil ?_
    refine QJ_then ?_
    refine CJ_ret ?_
    refine QJ_fin (.inl rfl) (μ' := []) (μr := _) (φ' := []) (res_tmp rfl rfl) (List.Perm.refl _) (fun _ h => nomatch h) ?_
    exact ⟨congrArg Value.bool (by first | (rw [decide_eq_decide]; unfold Btw; omega) | (symm; rw [decide_eq_false_iff_not]; unfold Btw; omega)), rfl, rfl⟩

set_option maxRecDepth 100000 in
set_option maxHeartbeats 1000000 in
theorem crosses_c {a1 a2 e1 e2 c1 c2 d1 d2 : Int} (ha : P2 a1 a2) (he : P2 e1 e2) (hc : P2 c1 c2) (hd : P2 d1 d2) : Tri Try.prog 45 [ptv a1 a2, ptv e1 e2, ptv c1 c2, ptv d1 d2] [] [] (Ret0 (.bool (decide (Crs a1 a2 e1 e2 c1 c2 d1 d2)))) := by
  refine Tri_of (N := 31) Try.func45 rfl ent_45 rfl rfl ?_
  intro w0 S0 T0
  show CJ _ _ _ [(0, _), (1, _), (2, _), (3, _)] _ _
  refine CJ_seq ?_
  refine CJ_reg ?_
  refine LJ_box (cs := #[_, _]) rfl rfl rfl rfl ?_
  intro b1
  refine LJ_box (cs := #[_, _]) rfl rfl rfl rfl ?_
  intro b2
  refine LJ_box (cs := #[_, _]) rfl rfl rfl rfl ?_
  intro b3
  refine LJ_box (cs := #[_, _]) rfl rfl rfl rfl ?_
  intro b4
  refine LJ_y rfl rfl (YJ_assign rfl) ?_
  refine LJ_nil ?_
  refine QJ_then ?_
  refine CJ_seq ?_
  refine CJ_regD mix (by kernel_rfl) (fun _ _ _ _ _ h => h) _ _ (fun _ h => h) (fun _ h => h) ?_
  first | refine AJ_y 0 rfl (by kernel_rfl) (by kernel_rfl) rfl rfl (YJ_loadN (vs := [_, _]) rfl tyi_53 (by repeat first | exact .head _ | apply List.Mem.tail) rfl rfl) ?_ | refine AJ_y 0 rfl (by kernel_rfl) (by kernel_rfl) rfl rfl (YJ_loadFactN (vs := [_, _]) rfl tyi_53 (by repeat first | exact .head _ | apply List.Mem.tail) rfl rfl) ?_
  first | refine AJ_y 1 rfl (by kernel_rfl) (by kernel_rfl) rfl rfl (YJ_loadN (vs := [_, _]) rfl tyi_53 (by repeat first | exact .head _ | apply List.Mem.tail) rfl rfl) ?_ | refine AJ_y 1 rfl (by kernel_rfl) (by kernel_rfl) rfl rfl (YJ_loadFactN (vs := [_, _]) rfl tyi_53 (by repeat first | exact .head _ | apply List.Mem.tail) rfl rfl) ?_
  first | refine AJ_y 2 rfl (by kernel_rfl) (by kernel_rfl) rfl rfl (YJ_loadN (vs := [_, _]) rfl tyi_53 (by repeat first | exact .head _ | apply List.Mem.tail) rfl rfl) ?_ | refine AJ_y 2 rfl (by kernel_rfl) (by kernel_rfl) rfl rfl (YJ_loadFactN (vs := [_, _]) rfl tyi_53 (by repeat first | exact .head _ | apply List.Mem.tail) rfl rfl) ?_
  first | refine AJ_y 4 rfl (by kernel_rfl) (by kernel_rfl) rfl rfl (YJ_loadN (vs := [_, _]) rfl tyi_53 (by repeat first | exact .head _ | apply List.Mem.tail) rfl rfl) ?_ | refine AJ_y 4 rfl (by kernel_rfl) (by kernel_rfl) rfl rfl (YJ_loadFactN (vs := [_, _]) rfl tyi_53 (by repeat first | exact .head _ | apply List.Mem.tail) rfl rfl) ?_
  first | refine AJ_y 5 rfl (by kernel_rfl) (by kernel_rfl) rfl rfl (YJ_loadN (vs := [_, _]) rfl tyi_53 (by repeat first | exact .head _ | apply List.Mem.tail) rfl rfl) ?_ | refine AJ_y 5 rfl (by kernel_rfl) (by kernel_rfl) rfl rfl (YJ_loadFactN (vs := [_, _]) rfl tyi_53 (by repeat first | exact .head _ | apply List.Mem.tail) rfl rfl) ?_
  first | refine AJ_y 6 rfl (by kernel_rfl) (by kernel_rfl) rfl rfl (YJ_loadN (vs := [_, _]) rfl tyi_53 (by repeat first | exact .head _ | apply List.Mem.tail) rfl rfl) ?_ | refine AJ_y 6 rfl (by kernel_rfl) (by kernel_rfl) rfl rfl (YJ_loadFactN (vs := [_, _]) rfl tyi_53 (by repeat first | exact .head _ | apply List.Mem.tail) rfl rfl) ?_
  refine AJ_call0 3 rfl (by kernel_rfl) rfl rfl rfl rfl rfl (orient_c ha he hc) (AllIn.sub (by first | exact trivial | exact And.intro (by repeat first | exact .head _ | apply List.Mem.tail) trivial | exact And.intro (by repeat first | exact .head _ | apply List.Mem.tail) (And.intro (by repeat first | exact .head _ | apply List.Mem.tail) trivial))) ?_
  refine AJ_call0 7 rfl (by kernel_rfl) rfl rfl rfl rfl rfl (orient_c ha he hd) (AllIn.sub (by first | exact trivial | exact And.intro (by repeat first | exact .head _ | apply List.Mem.tail) trivial | exact And.intro (by repeat first | exact .head _ | apply List.Mem.tail) (And.intro (by repeat first | exact .head _ | apply List.Mem.tail) trivial))) ?_
  refine AJ_y 8 rfl (by kernel_rfl) (by kernel_rfl) rfl rfl (YJ_bin rfl rfl (iop_mul (sgn_mul_b _ _))) ?_
  refine AJ_y 9 rfl (by kernel_rfl) (by kernel_rfl) rfl rfl (YJ_bin rfl rfl rfl) ?_
  refine AJ_y 10 rfl (by kernel_rfl) (by kernel_rfl) rfl rfl (YJ_move rfl) ?_
  refine AJ_boolC (fun h19 => ?_) (fun h19 => ?_)
  · try simp only [decide_eq_true_eq, decide_eq_false_iff_not, Bool.not_eq_true', Bool.not_eq_false', Bool.and_eq_true, Bool.and_eq_false_iff, beq_iff_eq, bne_iff_ne, beq_eq_false_iff_ne, bne_eq_false_iff_eq, ne_eq, decide_eq_decide] at h19
    first | refine AJ_y 11 rfl (by kernel_rfl) (by kernel_rfl) rfl rfl (YJ_loadN (vs := [_, _]) rfl tyi_53 (by repeat first | exact .head _ | apply List.Mem.tail) rfl rfl) ?_ | refine AJ_y 11 rfl (by kernel_rfl) (by kernel_rfl) rfl rfl (YJ_loadFactN (vs := [_, _]) rfl tyi_53 (by repeat first | exact .head _ | apply List.Mem.tail) rfl rfl) ?_
    first | refine AJ_y 12 rfl (by kernel_rfl) (by kernel_rfl) rfl rfl (YJ_loadN (vs := [_, _]) rfl tyi_53 (by repeat first | exact .head _ | apply List.Mem.tail) rfl rfl) ?_ | refine AJ_y 12 rfl (by kernel_rfl) (by kernel_rfl) rfl rfl (YJ_loadFactN (vs := [_, _]) rfl tyi_53 (by repeat first | exact .head _ | apply List.Mem.tail) rfl rfl) ?_
    first | refine AJ_y 13 rfl (by kernel_rfl) (by kernel_rfl) rfl rfl (YJ_loadN (vs := [_, _]) rfl tyi_53 (by repeat first | exact .head _ | apply List.Mem.tail) rfl rfl) ?_ | refine AJ_y 13 rfl (by kernel_rfl) (by kernel_rfl) rfl rfl (YJ_loadFactN (vs := [_, _]) rfl tyi_53 (by repeat first | exact .head _ | apply List.Mem.tail) rfl rfl) ?_
    first | refine AJ_y 15 rfl (by kernel_rfl) (by kernel_rfl) rfl rfl (YJ_loadN (vs := [_, _]) rfl tyi_53 (by repeat first | exact .head _ | apply List.Mem.tail) rfl rfl) ?_ | refine AJ_y 15 rfl (by kernel_rfl) (by kernel_rfl) rfl rfl (YJ_loadFactN (vs := [_, _]) rfl tyi_53 (by repeat first | exact .head _ | apply List.Mem.tail) rfl rfl) ?_
    first | refine AJ_y 16 rfl (by kernel_rfl) (by kernel_rfl) rfl rfl (YJ_loadN (vs := [_, _]) rfl tyi_53 (by repeat first | exact .head _ | apply List.Mem.tail) rfl rfl) ?_ | refine AJ_y 16 rfl (by kernel_rfl) (by kernel_rfl) rfl rfl (YJ_loadFactN (vs := [_, _]) rfl tyi_53 (by repeat first | exact .head _ | apply List.Mem.tail) rfl rfl) ?_
    first | refine AJ_y 17 rfl (by kernel_rfl) (by kernel_rfl) rfl rfl (YJ_loadN (vs := [_, _]) rfl tyi_53 (by repeat first | exact .head _ | apply List.Mem.tail) rfl rfl) ?_ | refine AJ_y 17 rfl (by kernel_rfl) (by kernel_rfl) rfl rfl (YJ_loadFactN (vs := [_, _]) rfl tyi_53 (by repeat first | exact .head _ | apply List.Mem.tail) rfl rfl) ?_
    refine AJ_call0 14 rfl (by kernel_rfl) rfl rfl rfl rfl rfl (orient_c hc hd ha) (AllIn.sub (by first | exact trivial | exact And.intro (by repeat first | exact .head _ | apply List.Mem.tail) trivial | exact And.intro (by repeat first | exact .head _ | apply List.Mem.tail) (And.intro (by repeat first | exact .head _ | apply List.Mem.tail) trivial))) ?_
    refine AJ_call0 18 rfl (by kernel_rfl) rfl rfl rfl rfl rfl (orient_c hc hd he) (AllIn.sub (by first | exact trivial | exact And.intro (by repeat first | exact .head _ | apply List.Mem.tail) trivial | exact And.intro (by repeat first | exact .head _ | apply List.Mem.tail) (And.intro (by repeat first | exact .head _ | apply List.Mem.tail) trivial))) ?_
    refine AJ_y 19 rfl (by kernel_rfl) (by kernel_rfl) rfl rfl (YJ_bin rfl rfl (iop_mul (sgn_mul_b _ _))) ?_
    refine AJ_y 20 rfl (by kernel_rfl) (by kernel_rfl) rfl rfl (YJ_bin rfl rfl rfl) ?_
    refine AJ_y 21 rfl (by kernel_rfl) (by kernel_rfl) rfl rfl (YJ_pickT rfl rfl) ?_
    refine AJ_y 22 rfl (by kernel_rfl) (by kernel_rfl) rfl rfl (YJ_assign rfl) ?_
    refine AJ_done (by kernel_rfl) ?_
    refine QJ_then ?_
    refine CJ_ret ?_
    refine QJ_fin (.inl rfl) (μ' := []) (μr := _) (φ' := []) (res_tmp rfl rfl) (List.Perm.refl _) (fun _ h => nomatch h) ?_
    exact ⟨congrArg Value.bool (by first | (rw [decide_eq_decide]; unfold Crs; omega) | (symm; rw [decide_eq_false_iff_not]; unfold Crs; omega)), rfl, rfl⟩
  · try simp only [decide_eq_true_eq, decide_eq_false_iff_not, Bool.not_eq_true', Bool.not_eq_false', Bool.and_eq_true, Bool.and_eq_false_iff, beq_iff_eq, bne_iff_ne, beq_eq_false_iff_ne, bne_eq_false_iff_eq, ne_eq, decide_eq_decide] at h19
    refine AJ_skip 11 rfl (by kernel_rfl) (by kernel_rfl) rfl rfl ?_
    refine AJ_skip 12 rfl (by kernel_rfl) (by kernel_rfl) rfl rfl ?_
    refine AJ_skip 13 rfl (by kernel_rfl) (by kernel_rfl) rfl rfl ?_
    refine AJ_skip 15 rfl (by kernel_rfl) (by kernel_rfl) rfl rfl ?_
    refine AJ_skip 16 rfl (by kernel_rfl) (by kernel_rfl) rfl rfl ?_
    refine AJ_skip 17 rfl (by kernel_rfl) (by kernel_rfl) rfl rfl ?_
    refine AJ_skip 14 rfl (by kernel_rfl) (by kernel_rfl) rfl rfl ?_
    refine AJ_skip 18 rfl (by kernel_rfl) (by kernel_rfl) rfl rfl ?_
    refine AJ_skip 19 rfl (by kernel_rfl) (by kernel_rfl) rfl rfl ?_
    refine AJ_skip 20 rfl (by kernel_rfl) (by kernel_rfl) rfl rfl ?_
    refine AJ_y 21 rfl (by kernel_rfl) (by kernel_rfl) rfl rfl (YJ_pickF rfl rfl) ?_
    refine AJ_y 22 rfl (by kernel_rfl) (by kernel_rfl) rfl rfl (YJ_assign rfl) ?_
    refine AJ_done (by kernel_rfl) ?_
    refine QJ_then ?_
    refine CJ_ret ?_
    refine QJ_fin (.inl rfl) (μ' := []) (μr := _) (φ' := []) (res_tmp rfl rfl) (List.Perm.refl _) (fun _ h => nomatch h) ?_
    exact ⟨congrArg Value.bool (by first | (rw [decide_eq_decide]; unfold Crs; omega) | (symm; rw [decide_eq_false_iff_not]; unfold Crs; omega)), rfl, rfl⟩

set_option maxRecDepth 100000 in
set_option maxHeartbeats 1000000 in
theorem meets_c {a1 a2 e1 e2 c1 c2 d1 d2 : Int} (ha : P2 a1 a2) (he : P2 e1 e2) (hc : P2 c1 c2) (hd : P2 d1 d2) : Tri Try.prog 46 [ptv a1 a2, ptv e1 e2, ptv c1 c2, ptv d1 d2] [] [] (Ret0 (.bool (decide (Mts a1 a2 e1 e2 c1 c2 d1 d2)))) := by
  refine Tri_of (N := 38) Try.func46 rfl ent_46 rfl rfl ?_
  intro w0 S0 T0
  show CJ _ _ _ [(0, _), (1, _), (2, _), (3, _)] _ _
  refine CJ_seq ?_
  refine CJ_reg ?_
  refine LJ_box (cs := #[_, _]) rfl rfl rfl rfl ?_
  intro b1
  refine LJ_box (cs := #[_, _]) rfl rfl rfl rfl ?_
  intro b2
  refine LJ_box (cs := #[_, _]) rfl rfl rfl rfl ?_
  intro b3
  refine LJ_box (cs := #[_, _]) rfl rfl rfl rfl ?_
  intro b4
  refine LJ_y rfl rfl (YJ_assign rfl) ?_
  refine LJ_nil ?_
  refine QJ_then ?_
  refine CJ_seq ?_
  refine CJ_reg ?_
  first | refine LJ_y rfl rfl (YJ_loadN (vs := [_, _]) rfl tyi_53 (by repeat first | exact .head _ | apply List.Mem.tail) rfl rfl) ?_ | refine LJ_y rfl rfl (YJ_loadFactN (vs := [_, _]) rfl tyi_53 (by repeat first | exact .head _ | apply List.Mem.tail) rfl rfl) ?_
  first | refine LJ_y rfl rfl (YJ_loadN (vs := [_, _]) rfl tyi_53 (by repeat first | exact .head _ | apply List.Mem.tail) rfl rfl) ?_ | refine LJ_y rfl rfl (YJ_loadFactN (vs := [_, _]) rfl tyi_53 (by repeat first | exact .head _ | apply List.Mem.tail) rfl rfl) ?_
  first | refine LJ_y rfl rfl (YJ_loadN (vs := [_, _]) rfl tyi_53 (by repeat first | exact .head _ | apply List.Mem.tail) rfl rfl) ?_ | refine LJ_y rfl rfl (YJ_loadFactN (vs := [_, _]) rfl tyi_53 (by repeat first | exact .head _ | apply List.Mem.tail) rfl rfl) ?_
  first | refine LJ_y rfl rfl (YJ_loadN (vs := [_, _]) rfl tyi_53 (by repeat first | exact .head _ | apply List.Mem.tail) rfl rfl) ?_ | refine LJ_y rfl rfl (YJ_loadFactN (vs := [_, _]) rfl tyi_53 (by repeat first | exact .head _ | apply List.Mem.tail) rfl rfl) ?_
  refine LJ_call0 rfl rfl rfl rfl rfl (crosses_c ha he hc hd) (AllIn.sub (by first | exact trivial | exact And.intro (by repeat first | exact .head _ | apply List.Mem.tail) trivial | exact And.intro (by repeat first | exact .head _ | apply List.Mem.tail) (And.intro (by repeat first | exact .head _ | apply List.Mem.tail) trivial))) ?_
  refine LJ_y rfl rfl (YJ_move rfl) ?_
  refine LJ_boolC (fun h14 => ?_) (fun h14 => ?_)
  · try simp only [decide_eq_true_eq, decide_eq_false_iff_not, Bool.not_eq_true', Bool.not_eq_false', Bool.and_eq_true, Bool.and_eq_false_iff, beq_iff_eq, bne_iff_ne, beq_eq_false_iff_ne, bne_eq_false_iff_eq, ne_eq, decide_eq_decide] at h14
    refine LJ_skip rfl rfl ?_
    refine LJ_skip rfl rfl ?_
    refine LJ_skip rfl rfl ?_
    refine LJ_skip rfl rfl ?_
    refine LJ_y rfl rfl (YJ_pickT rfl rfl) ?_
    refine LJ_y rfl rfl (YJ_move rfl) ?_
    refine LJ_skip rfl rfl ?_
    refine LJ_skip rfl rfl ?_
    refine LJ_skip rfl rfl ?_
    refine LJ_skip rfl rfl ?_
    refine LJ_y rfl rfl (YJ_pickT rfl rfl) ?_
    refine LJ_y rfl rfl (YJ_move rfl) ?_
    refine LJ_skip rfl rfl ?_
    refine LJ_skip rfl rfl ?_
    refine LJ_skip rfl rfl ?_
    refine LJ_skip rfl rfl ?_
    refine LJ_y rfl rfl (YJ_pickT rfl rfl) ?_
    refine LJ_y rfl rfl (YJ_move rfl) ?_
    refine LJ_skip rfl rfl ?_
    refine LJ_skip rfl rfl ?_
    refine LJ_skip rfl rfl ?_
    refine LJ_skip rfl rfl ?_
    refine LJ_y rfl rfl (YJ_pickT rfl rfl) ?_
    refine LJ_y rfl rfl (YJ_assign rfl) ?_
    refine LJ_nil ?_
    refine QJ_then ?_
    refine CJ_ret ?_
    refine QJ_fin (.inl rfl) (μ' := []) (μr := _) (φ' := []) (res_tmp rfl rfl) (List.Perm.refl _) (fun _ h => nomatch h) ?_
    exact ⟨congrArg Value.bool (by first | (rw [decide_eq_decide]; unfold Mts; simp only [*, false_or]) | (symm; rw [decide_eq_true_iff]; unfold Mts; simp only [*, true_or, or_true])), rfl, rfl⟩
  · try simp only [decide_eq_true_eq, decide_eq_false_iff_not, Bool.not_eq_true', Bool.not_eq_false', Bool.and_eq_true, Bool.and_eq_false_iff, beq_iff_eq, bne_iff_ne, beq_eq_false_iff_ne, bne_eq_false_iff_eq, ne_eq, decide_eq_decide] at h14
    first | refine LJ_y rfl rfl (YJ_loadN (vs := [_, _]) rfl tyi_53 (by repeat first | exact .head _ | apply List.Mem.tail) rfl rfl) ?_ | refine LJ_y rfl rfl (YJ_loadFactN (vs := [_, _]) rfl tyi_53 (by repeat first | exact .head _ | apply List.Mem.tail) rfl rfl) ?_
    first | refine LJ_y rfl rfl (YJ_loadN (vs := [_, _]) rfl tyi_53 (by repeat first | exact .head _ | apply List.Mem.tail) rfl rfl) ?_ | refine LJ_y rfl rfl (YJ_loadFactN (vs := [_, _]) rfl tyi_53 (by repeat first | exact .head _ | apply List.Mem.tail) rfl rfl) ?_
    first | refine LJ_y rfl rfl (YJ_loadN (vs := [_, _]) rfl tyi_53 (by repeat first | exact .head _ | apply List.Mem.tail) rfl rfl) ?_ | refine LJ_y rfl rfl (YJ_loadFactN (vs := [_, _]) rfl tyi_53 (by repeat first | exact .head _ | apply List.Mem.tail) rfl rfl) ?_
    refine LJ_call0 rfl rfl rfl rfl rfl (on_c ha hc hd) (AllIn.sub (by first | exact trivial | exact And.intro (by repeat first | exact .head _ | apply List.Mem.tail) trivial | exact And.intro (by repeat first | exact .head _ | apply List.Mem.tail) (And.intro (by repeat first | exact .head _ | apply List.Mem.tail) trivial))) ?_
    refine LJ_y rfl rfl (YJ_pickF rfl rfl) ?_
    refine LJ_y rfl rfl (YJ_move rfl) ?_
    refine LJ_boolC (fun h20 => ?_) (fun h20 => ?_)
    · try simp only [decide_eq_true_eq, decide_eq_false_iff_not, Bool.not_eq_true', Bool.not_eq_false', Bool.and_eq_true, Bool.and_eq_false_iff, beq_iff_eq, bne_iff_ne, beq_eq_false_iff_ne, bne_eq_false_iff_eq, ne_eq, decide_eq_decide] at h20
      refine LJ_skip rfl rfl ?_
      refine LJ_skip rfl rfl ?_
      refine LJ_skip rfl rfl ?_
      refine LJ_skip rfl rfl ?_
      refine LJ_y rfl rfl (YJ_pickT rfl rfl) ?_
      refine LJ_y rfl rfl (YJ_move rfl) ?_
      refine LJ_skip rfl rfl ?_
      refine LJ_skip rfl rfl ?_
      refine LJ_skip rfl rfl ?_
      refine LJ_skip rfl rfl ?_
      refine LJ_y rfl rfl (YJ_pickT rfl rfl) ?_
      refine LJ_y rfl rfl (YJ_move rfl) ?_
      refine LJ_skip rfl rfl ?_
      refine LJ_skip rfl rfl ?_
      refine LJ_skip rfl rfl ?_
      refine LJ_skip rfl rfl ?_
      refine LJ_y rfl rfl (YJ_pickT rfl rfl) ?_
      refine LJ_y rfl rfl (YJ_assign rfl) ?_
      refine LJ_nil ?_
      refine QJ_then ?_
      refine CJ_ret ?_
      refine QJ_fin (.inl rfl) (μ' := []) (μr := _) (φ' := []) (res_tmp rfl rfl) (List.Perm.refl _) (fun _ h => nomatch h) ?_
      exact ⟨congrArg Value.bool (by first | (rw [decide_eq_decide]; unfold Mts; simp only [*, false_or]) | (symm; rw [decide_eq_true_iff]; unfold Mts; simp only [*, true_or, or_true])), rfl, rfl⟩
    · try simp only [decide_eq_true_eq, decide_eq_false_iff_not, Bool.not_eq_true', Bool.not_eq_false', Bool.and_eq_true, Bool.and_eq_false_iff, beq_iff_eq, bne_iff_ne, beq_eq_false_iff_ne, bne_eq_false_iff_eq, ne_eq, decide_eq_decide] at h20
      first | refine LJ_y rfl rfl (YJ_loadN (vs := [_, _]) rfl tyi_53 (by repeat first | exact .head _ | apply List.Mem.tail) rfl rfl) ?_ | refine LJ_y rfl rfl (YJ_loadFactN (vs := [_, _]) rfl tyi_53 (by repeat first | exact .head _ | apply List.Mem.tail) rfl rfl) ?_
      first | refine LJ_y rfl rfl (YJ_loadN (vs := [_, _]) rfl tyi_53 (by repeat first | exact .head _ | apply List.Mem.tail) rfl rfl) ?_ | refine LJ_y rfl rfl (YJ_loadFactN (vs := [_, _]) rfl tyi_53 (by repeat first | exact .head _ | apply List.Mem.tail) rfl rfl) ?_
      first | refine LJ_y rfl rfl (YJ_loadN (vs := [_, _]) rfl tyi_53 (by repeat first | exact .head _ | apply List.Mem.tail) rfl rfl) ?_ | refine LJ_y rfl rfl (YJ_loadFactN (vs := [_, _]) rfl tyi_53 (by repeat first | exact .head _ | apply List.Mem.tail) rfl rfl) ?_
      refine LJ_call0 rfl rfl rfl rfl rfl (on_c he hc hd) (AllIn.sub (by first | exact trivial | exact And.intro (by repeat first | exact .head _ | apply List.Mem.tail) trivial | exact And.intro (by repeat first | exact .head _ | apply List.Mem.tail) (And.intro (by repeat first | exact .head _ | apply List.Mem.tail) trivial))) ?_
      refine LJ_y rfl rfl (YJ_pickF rfl rfl) ?_
      refine LJ_y rfl rfl (YJ_move rfl) ?_
      refine LJ_boolC (fun h26 => ?_) (fun h26 => ?_)
      · try simp only [decide_eq_true_eq, decide_eq_false_iff_not, Bool.not_eq_true', Bool.not_eq_false', Bool.and_eq_true, Bool.and_eq_false_iff, beq_iff_eq, bne_iff_ne, beq_eq_false_iff_ne, bne_eq_false_iff_eq, ne_eq, decide_eq_decide] at h26
        refine LJ_skip rfl rfl ?_
        refine LJ_skip rfl rfl ?_
        refine LJ_skip rfl rfl ?_
        refine LJ_skip rfl rfl ?_
        refine LJ_y rfl rfl (YJ_pickT rfl rfl) ?_
        refine LJ_y rfl rfl (YJ_move rfl) ?_
        refine LJ_skip rfl rfl ?_
        refine LJ_skip rfl rfl ?_
        refine LJ_skip rfl rfl ?_
        refine LJ_skip rfl rfl ?_
        refine LJ_y rfl rfl (YJ_pickT rfl rfl) ?_
        refine LJ_y rfl rfl (YJ_assign rfl) ?_
        refine LJ_nil ?_
        refine QJ_then ?_
        refine CJ_ret ?_
        refine QJ_fin (.inl rfl) (μ' := []) (μr := _) (φ' := []) (res_tmp rfl rfl) (List.Perm.refl _) (fun _ h => nomatch h) ?_
        exact ⟨congrArg Value.bool (by first | (rw [decide_eq_decide]; unfold Mts; simp only [*, false_or]) | (symm; rw [decide_eq_true_iff]; unfold Mts; simp only [*, true_or, or_true])), rfl, rfl⟩
      · try simp only [decide_eq_true_eq, decide_eq_false_iff_not, Bool.not_eq_true', Bool.not_eq_false', Bool.and_eq_true, Bool.and_eq_false_iff, beq_iff_eq, bne_iff_ne, beq_eq_false_iff_ne, bne_eq_false_iff_eq, ne_eq, decide_eq_decide] at h26
        first | refine LJ_y rfl rfl (YJ_loadN (vs := [_, _]) rfl tyi_53 (by repeat first | exact .head _ | apply List.Mem.tail) rfl rfl) ?_ | refine LJ_y rfl rfl (YJ_loadFactN (vs := [_, _]) rfl tyi_53 (by repeat first | exact .head _ | apply List.Mem.tail) rfl rfl) ?_
        first | refine LJ_y rfl rfl (YJ_loadN (vs := [_, _]) rfl tyi_53 (by repeat first | exact .head _ | apply List.Mem.tail) rfl rfl) ?_ | refine LJ_y rfl rfl (YJ_loadFactN (vs := [_, _]) rfl tyi_53 (by repeat first | exact .head _ | apply List.Mem.tail) rfl rfl) ?_
        first | refine LJ_y rfl rfl (YJ_loadN (vs := [_, _]) rfl tyi_53 (by repeat first | exact .head _ | apply List.Mem.tail) rfl rfl) ?_ | refine LJ_y rfl rfl (YJ_loadFactN (vs := [_, _]) rfl tyi_53 (by repeat first | exact .head _ | apply List.Mem.tail) rfl rfl) ?_
        refine LJ_call0 rfl rfl rfl rfl rfl (on_c hc ha he) (AllIn.sub (by first | exact trivial | exact And.intro (by repeat first | exact .head _ | apply List.Mem.tail) trivial | exact And.intro (by repeat first | exact .head _ | apply List.Mem.tail) (And.intro (by repeat first | exact .head _ | apply List.Mem.tail) trivial))) ?_
        refine LJ_y rfl rfl (YJ_pickF rfl rfl) ?_
        refine LJ_y rfl rfl (YJ_move rfl) ?_
        refine LJ_boolC (fun h32 => ?_) (fun h32 => ?_)
        · try simp only [decide_eq_true_eq, decide_eq_false_iff_not, Bool.not_eq_true', Bool.not_eq_false', Bool.and_eq_true, Bool.and_eq_false_iff, beq_iff_eq, bne_iff_ne, beq_eq_false_iff_ne, bne_eq_false_iff_eq, ne_eq, decide_eq_decide] at h32
          refine LJ_skip rfl rfl ?_
          refine LJ_skip rfl rfl ?_
          refine LJ_skip rfl rfl ?_
          refine LJ_skip rfl rfl ?_
          refine LJ_y rfl rfl (YJ_pickT rfl rfl) ?_
          refine LJ_y rfl rfl (YJ_assign rfl) ?_
          refine LJ_nil ?_
          refine QJ_then ?_
          refine CJ_ret ?_
          refine QJ_fin (.inl rfl) (μ' := []) (μr := _) (φ' := []) (res_tmp rfl rfl) (List.Perm.refl _) (fun _ h => nomatch h) ?_
          exact ⟨congrArg Value.bool (by first | (rw [decide_eq_decide]; unfold Mts; simp only [*, false_or]) | (symm; rw [decide_eq_true_iff]; unfold Mts; simp only [*, true_or, or_true])), rfl, rfl⟩
        · try simp only [decide_eq_true_eq, decide_eq_false_iff_not, Bool.not_eq_true', Bool.not_eq_false', Bool.and_eq_true, Bool.and_eq_false_iff, beq_iff_eq, bne_iff_ne, beq_eq_false_iff_ne, bne_eq_false_iff_eq, ne_eq, decide_eq_decide] at h32
          first | refine LJ_y rfl rfl (YJ_loadN (vs := [_, _]) rfl tyi_53 (by repeat first | exact .head _ | apply List.Mem.tail) rfl rfl) ?_ | refine LJ_y rfl rfl (YJ_loadFactN (vs := [_, _]) rfl tyi_53 (by repeat first | exact .head _ | apply List.Mem.tail) rfl rfl) ?_
          first | refine LJ_y rfl rfl (YJ_loadN (vs := [_, _]) rfl tyi_53 (by repeat first | exact .head _ | apply List.Mem.tail) rfl rfl) ?_ | refine LJ_y rfl rfl (YJ_loadFactN (vs := [_, _]) rfl tyi_53 (by repeat first | exact .head _ | apply List.Mem.tail) rfl rfl) ?_
          first | refine LJ_y rfl rfl (YJ_loadN (vs := [_, _]) rfl tyi_53 (by repeat first | exact .head _ | apply List.Mem.tail) rfl rfl) ?_ | refine LJ_y rfl rfl (YJ_loadFactN (vs := [_, _]) rfl tyi_53 (by repeat first | exact .head _ | apply List.Mem.tail) rfl rfl) ?_
          refine LJ_call0 rfl rfl rfl rfl rfl (on_c hd ha he) (AllIn.sub (by first | exact trivial | exact And.intro (by repeat first | exact .head _ | apply List.Mem.tail) trivial | exact And.intro (by repeat first | exact .head _ | apply List.Mem.tail) (And.intro (by repeat first | exact .head _ | apply List.Mem.tail) trivial))) ?_
          refine LJ_y rfl rfl (YJ_pickF rfl rfl) ?_
          refine LJ_y rfl rfl (YJ_assign rfl) ?_
          refine LJ_nil ?_
          refine QJ_then ?_
          refine CJ_ret ?_
          refine QJ_fin (.inl rfl) (μ' := []) (μr := _) (φ' := []) (res_tmp rfl rfl) (List.Perm.refl _) (fun _ h => nomatch h) ?_
          exact ⟨congrArg Value.bool (by first | (rw [decide_eq_decide]; unfold Mts; simp only [*, false_or]) | (symm; rw [decide_eq_true_iff]; unfold Mts; simp only [*, true_or, or_true])), rfl, rfl⟩


def ptCells (l : List (Int × Int)) : List Value := l.flatMap fun p => [.int .i64 p.1, .int .i64 p.2]
theorem ptCells_get : ∀ {l : List (Int × Int)} {i : Nat}, i < l.length → ((ptCells l).drop (i * 2)).take 2 = [.int .i64 (l.getD i (0, 0)).1, .int .i64 (l.getD i (0, 0)).2]
  | [], i, h => by simp at h
  | u :: l, 0, h => by simp [ptCells]
  | u :: l, i + 1, h => by
    have := ptCells_get (l := l) (i := i) (by simpa using h)
    rw [List.getD_cons_succ, ← this, Nat.succ_mul]
    simp [ptCells]
/-- the shoelace formula, so far -/
def shoe (l : List (Int × Int)) : Nat → Int
  | 0 => 0
  | i + 1 => shoe l i + ((l.getD i (0, 0)).1 * (l.getD ((i + 1) % l.length) (0, 0)).2 - (l.getD i (0, 0)).2 * (l.getD ((i + 1) % l.length) (0, 0)).1)
theorem dl_i64 {x : Int} (h : I64 x) : dl x ≤ 2 := dl_r128 h.r
theorem shoe_dl {l : List (Int × Int)} {i : Nat} {x y : Int × Int} (h : dl (shoe l i) ≤ i * 10) (hx : P2 x.1 x.2) (hy : P2 y.1 y.2) : dl (shoe l i + (x.1 * y.2 - x.2 * y.1)) ≤ (i + 1) * 10 := by
  have := dl_add h (dl_sub (dl_mul (dl_i64 hx.1.i64) (dl_i64 hy.2.i64)) (dl_mul (dl_i64 hx.2.i64) (dl_i64 hy.1.i64)))
  omega
theorem tmod_nat (a b : Nat) : Int.tmod ((a : Int) + 1) (b : Int) = (((a + 1) % b : Nat) : Int) := by
  rw [Int.tmod_eq_emod_of_nonneg (by omega), Int.natCast_emod, Int.natCast_add]; rfl


set_option maxRecDepth 100000 in
set_option maxHeartbeats 4000000 in
theorem larea2_c {A0 : Option Addr} {n c0 : Nat} {l : List (Int × Int)} (hn : n = l.length) (hl : l.length ≤ 100) (hL : ∀ i, i < l.length → P2 (l.getD i (0, 0)).1 (l.getD i (0, 0)).2) : Tri Try.prog 44 [.slice A0 n c0] [] [sliceR 2 A0 l.length (ptCells l)] (RetN (shoe l l.length)) := by
  refine Tri_of (N := 40) Try.func44 rfl ent_44 rfl rfl ?_
  intro w0 S0 T0
  show CJ _ _ _ [(0, _)] _ _
  subst hn
  refine CJ_seq ?_
  refine CJ_reg ?_
  refine LJ_alloc (cs := #[_, _]) rfl rfl zer_29 rfl ?_
  intro b1
  refine LJ_nil ?_
  refine QJ_then ?_
  refine CJ_seq ?_
  refine CJ_reg ?_
  refine LJ_callX rfl rfl rfl rfl rfl (show Tri _ _ _ _ _ (RetN (shoe l 0)) from nof_c (z := 0) (by unfold I64; omega)) (AllIn.sub (by first | exact trivial | exact And.intro (by repeat first | exact .head _ | apply List.Mem.tail) trivial | exact And.intro (by repeat first | exact .head _ | apply List.Mem.tail) (And.intro (by repeat first | exact .head _ | apply List.Mem.tail) trivial))) ?_
  rintro ⟨A1, k1⟩ hcap1
  dsimp only at hcap1
  dsimp only [List.cons_append, List.nil_append]
  refine LJ_alloc (cs := #[_, _]) rfl rfl zer_29 rfl ?_
  intro b2
  refine LJ_store (cs' := #[_, _]) (μ' := [_, _]) 0 rfl rfl rfl rfl tyi_29 rfl (Nat.le_of_ble_eq_true rfl) rfl rfl rfl ?_
  refine LJ_nil ?_
  refine QJ_then ?_
  refine CJ_seq ?_
  refine CJ_seq ?_
  refine CJ_reg ?_
  refine LJ_y rfl rfl (YJ_move rfl) ?_
  refine LJ_y rfl rfl (YJ_len rfl ulen_87 rfl) ?_
  refine LJ_y rfl rfl (YJ_move rfl) ?_
  refine LJ_nil ?_
  refine QJ_then ?_
  refine CJ_block ?_
  refine CJ_loop (F := fun (x : Nat × Option Addr × Nat) => ⟨[(0, .slice A0 l.length c0), (2, .pointer (some ⟨b1, 0, none⟩)), (3, .pointer (some ⟨b2, 0, none⟩)), (8, .slice A0 l.length c0), (9, .int .i64 (l.length : Int)), (10, .int .i64 (x.1 : Int))], [cellsR b2 #[.bool (decide (shoe l x.1 < 0)), .slice x.2.1 (dl (shoe l x.1)) x.2.2] 29, cellsR b1 #[.bool false, .slice none 0 0] 29], [numF (shoe l x.1) x.2.1, sliceR 2 A0 l.length (ptCells l)]⟩) (I := fun (x : Nat × Option Addr × Nat) => x.1 ≤ l.length ∧ dl (shoe l x.1) ≤ x.1 * 10 ∧ dl (shoe l x.1) ≤ x.2.2) (m := fun (x : Nat × Option Addr × Nat) => l.length - x.1) (0, A1, k1) (μr := []) ⟨Nat.zero_le _, Nat.le_of_eq dl_zero, hcap1⟩ (And.intro rfl (And.intro rfl (And.intro rfl (And.intro rfl (And.intro rfl (And.intro rfl (trivial))))))) (List.Perm.refl _) (fun _ h => h) ?_
  rintro ⟨i, A, k⟩ ⟨hi, hb, hk⟩
  try dsimp only at hi
  try dsimp only at hb
  try dsimp only at hk
  show CJ _ _ _ [(0, .slice A0 l.length c0), (2, .pointer (some ⟨b1, 0, none⟩)), (3, .pointer (some ⟨b2, 0, none⟩)), (8, .slice A0 l.length c0), (9, .int .i64 (l.length : Int)), (10, .int .i64 (i : Int))] [cellsR b2 #[.bool (decide (shoe l i < 0)), .slice A (dl (shoe l i)) k] 29, cellsR b1 #[.bool false, .slice none 0 0] 29] [numF (shoe l i) A, sliceR 2 A0 l.length (ptCells l)]
  refine CJ_seq ?_
  refine CJ_reg ?_
  refine LJ_y rfl rfl (YJ_bin rfl rfl rfl) ?_
  refine LJ_nil ?_
  refine QJ_then ?_
  refine CJ_seq ?_
  refine CJ_cond rfl (fun h11 => ?_) (fun h11 => ?_)
  · try simp only [decide_eq_true_eq, decide_eq_false_iff_not, Bool.not_eq_true', Bool.not_eq_false', Bool.and_eq_true, Bool.and_eq_false_iff, beq_iff_eq, bne_iff_ne, beq_eq_false_iff_ne, bne_eq_false_iff_eq, ne_eq, decide_eq_decide] at h11
    have hx := hL i (by omega)
    have hm : (i + 1) % l.length < l.length := Nat.mod_lt _ (by omega)
    have hy := hL ((i + 1) % l.length) hm
    refine CJ_skip ?_
    refine QJ_then ?_
    refine CJ_seq ?_
    refine CJ_block ?_
    refine CJ_seq ?_
    refine CJ_reg ?_
    refine LJ_y rfl rfl (YJ_move rfl) ?_
    first | refine LJ_y rfl rfl (YJ_ixOwn rfl rfl elt_87 (by omega) (by omega)) ?_ | refine LJ_y rfl rfl (YJ_ixFact rfl rfl elt_87 (by repeat first | exact .head _ | apply List.Mem.tail) (by decide) (by omega) (by omega) (by omega)) ?_
    refine LJ_y rfl rfl (YJ_loadFactN (vs := [_, _]) (xs := ptCells l) rfl tyi_53 (by repeat first | exact .head _ | apply List.Mem.tail) (ptCells_get (i := i) (by omega)) rfl) ?_
    refine LJ_alloc (cs := #[_, _]) rfl rfl zer_53 rfl ?_
    intro b3
    refine LJ_y rfl rfl (YJ_assign rfl) ?_
    refine LJ_store (cs' := #[_, _]) (μ' := [_, _, _]) 0 rfl rfl rfl rfl tyi_53 rfl (Nat.le_of_ble_eq_true rfl) rfl rfl rfl ?_
    refine LJ_nil ?_
    refine QJ_then ?_
    refine CJ_seq ?_
    refine CJ_reg ?_
    refine LJ_y rfl rfl (YJ_move rfl) ?_
    refine LJ_y rfl rfl (YJ_move rfl) ?_
    first | refine LJ_y rfl rfl (YJ_bin rfl rfl (iop_add (by omega))) ?_ | refine LJ_y rfl rfl (YJ_bin rfl rfl rfl) ?_
    refine LJ_y rfl rfl (YJ_move rfl) ?_
    refine LJ_y rfl rfl (YJ_len rfl ulen_87 rfl) ?_
    refine LJ_y rfl rfl (YJ_rem rfl rfl (by first | decide | omega)) ?_
    refine LJ_val (v := .int .i64 (((i + 1) % l.length : Nat) : Int)) (congrArg (Value.int .i64) (tmod_nat i l.length)) ?_
    first | refine LJ_y rfl rfl (YJ_ixOwn rfl rfl elt_87 (by omega) (by omega)) ?_ | refine LJ_y rfl rfl (YJ_ixFact rfl rfl elt_87 (by repeat first | exact .head _ | apply List.Mem.tail) (by decide) (by omega) (by omega) (by omega)) ?_
    refine LJ_y rfl rfl (YJ_loadFactN (vs := [_, _]) (xs := ptCells l) rfl tyi_53 (by repeat first | exact .head _ | apply List.Mem.tail) (ptCells_get (i := (i + 1) % l.length) hm) rfl) ?_
    refine LJ_alloc (cs := #[_, _]) rfl rfl zer_53 rfl ?_
    intro b4
    refine LJ_store (cs' := #[_, _]) (μ' := [_, _, _, _]) 0 rfl rfl rfl rfl tyi_53 rfl (Nat.le_of_ble_eq_true rfl) rfl rfl rfl ?_
    refine LJ_nil ?_
    refine QJ_then ?_
    refine CJ_regM mix (by kernel_rfl) (fun _ _ _ _ _ h => h) [[], [], [15], []] ?_
    first | refine BJ_l 0 2 rfl (by kernel_rfl) (by kernel_rfl) (by kernel_rfl) rfl (by kernel_rfl) (by repeat first | exact .head _ | apply List.Mem.tail) rfl rfl (YJ_loadN (vs := [_, _]) rfl tyi_29 (by repeat first | exact .head _ | apply List.Mem.tail) rfl rfl) ?_ | refine BJ_l 0 2 rfl (by kernel_rfl) (by kernel_rfl) (by kernel_rfl) rfl (by kernel_rfl) (by repeat first | exact .head _ | apply List.Mem.tail) rfl rfl (YJ_loadFactN (vs := [_, _]) rfl tyi_29 (by repeat first | exact .head _ | apply List.Mem.tail) rfl rfl) ?_
    first | refine BJ_y 1 rfl (by kernel_rfl) (by kernel_rfl) (by kernel_rfl) rfl rfl (YJ_fieldOwn rfl fld_53_0 rfl) ?_ | refine BJ_y 1 rfl (by kernel_rfl) (by kernel_rfl) (by kernel_rfl) rfl rfl (YJ_fieldAddr rfl fld_53_0) ?_
    first | refine BJ_l 2 1 rfl (by kernel_rfl) (by kernel_rfl) (by kernel_rfl) rfl (by kernel_rfl) (by repeat first | exact .head _ | apply List.Mem.tail) rfl rfl (YJ_loadL rfl tyi_3 (by repeat first | exact .head _ | apply List.Mem.tail) rfl) ?_ | refine BJ_l 2 1 rfl (by kernel_rfl) (by kernel_rfl) (by kernel_rfl) rfl (by kernel_rfl) (by repeat first | exact .head _ | apply List.Mem.tail) rfl rfl (YJ_loadFact rfl tyi_3 (by repeat first | exact .head _ | apply List.Mem.tail) rfl) ?_
    first | refine BJ_y 4 rfl (by kernel_rfl) (by kernel_rfl) (by kernel_rfl) rfl rfl (YJ_fieldOwn rfl fld_53_1 rfl) ?_ | refine BJ_y 4 rfl (by kernel_rfl) (by kernel_rfl) (by kernel_rfl) rfl rfl (YJ_fieldAddr rfl fld_53_1) ?_
    first | refine BJ_l 5 1 rfl (by kernel_rfl) (by kernel_rfl) (by kernel_rfl) rfl (by kernel_rfl) (by repeat first | exact .head _ | apply List.Mem.tail) rfl rfl (YJ_loadL rfl tyi_3 (by repeat first | exact .head _ | apply List.Mem.tail) rfl) ?_ | refine BJ_l 5 1 rfl (by kernel_rfl) (by kernel_rfl) (by kernel_rfl) rfl (by kernel_rfl) (by repeat first | exact .head _ | apply List.Mem.tail) rfl rfl (YJ_loadFact rfl tyi_3 (by repeat first | exact .head _ | apply List.Mem.tail) rfl) ?_
    first | refine BJ_y 7 rfl (by kernel_rfl) (by kernel_rfl) (by kernel_rfl) rfl rfl (YJ_fieldOwn rfl fld_53_0 rfl) ?_ | refine BJ_y 7 rfl (by kernel_rfl) (by kernel_rfl) (by kernel_rfl) rfl rfl (YJ_fieldAddr rfl fld_53_0) ?_
    first | refine BJ_l 8 0 rfl (by kernel_rfl) (by kernel_rfl) (by kernel_rfl) rfl (by kernel_rfl) (by repeat first | exact .head _ | apply List.Mem.tail) rfl rfl (YJ_loadL rfl tyi_3 (by repeat first | exact .head _ | apply List.Mem.tail) rfl) ?_ | refine BJ_l 8 0 rfl (by kernel_rfl) (by kernel_rfl) (by kernel_rfl) rfl (by kernel_rfl) (by repeat first | exact .head _ | apply List.Mem.tail) rfl rfl (YJ_loadFact rfl tyi_3 (by repeat first | exact .head _ | apply List.Mem.tail) rfl) ?_
    first | refine BJ_y 10 rfl (by kernel_rfl) (by kernel_rfl) (by kernel_rfl) rfl rfl (YJ_fieldOwn rfl fld_53_1 rfl) ?_ | refine BJ_y 10 rfl (by kernel_rfl) (by kernel_rfl) (by kernel_rfl) rfl rfl (YJ_fieldAddr rfl fld_53_1) ?_
    first | refine BJ_l 11 0 rfl (by kernel_rfl) (by kernel_rfl) (by kernel_rfl) rfl (by kernel_rfl) (by repeat first | exact .head _ | apply List.Mem.tail) rfl rfl (YJ_loadL rfl tyi_3 (by repeat first | exact .head _ | apply List.Mem.tail) rfl) ?_ | refine BJ_l 11 0 rfl (by kernel_rfl) (by kernel_rfl) (by kernel_rfl) rfl (by kernel_rfl) (by repeat first | exact .head _ | apply List.Mem.tail) rfl rfl (YJ_loadFact rfl tyi_3 (by repeat first | exact .head _ | apply List.Mem.tail) rfl) ?_
    refine BJ_callX 3 rfl (by kernel_rfl) rfl rfl rfl rfl rfl (And.intro (.inr (by repeat first | exact .head _ | apply List.Mem.tail)) (And.intro (.inr (by repeat first | exact .head _ | apply List.Mem.tail)) (And.intro (.inr (by repeat first | exact .head _ | apply List.Mem.tail)) (And.intro (.inr (by repeat first | exact .head _ | apply List.Mem.tail)) (trivial))))) (nof_c hx.1.i64) (AllIn.sub (by first | exact trivial | exact And.intro (by repeat first | exact .head _ | apply List.Mem.tail) trivial | exact And.intro (by repeat first | exact .head _ | apply List.Mem.tail) (And.intro (by repeat first | exact .head _ | apply List.Mem.tail) trivial))) ?_
    rintro ⟨A2, k2⟩ hcap2
    dsimp only at hcap2
    dsimp only [List.cons_append, List.nil_append]
    refine BJ_callX 6 rfl (by kernel_rfl) rfl rfl rfl rfl rfl (And.intro (.inr (by repeat first | exact .head _ | apply List.Mem.tail)) (And.intro (.inr (by repeat first | exact .head _ | apply List.Mem.tail)) (And.intro (.inr (by repeat first | exact .head _ | apply List.Mem.tail)) (And.intro (.inr (by repeat first | exact .head _ | apply List.Mem.tail)) (trivial))))) (nof_c hx.2.i64) (AllIn.sub (by first | exact trivial | exact And.intro (by repeat first | exact .head _ | apply List.Mem.tail) trivial | exact And.intro (by repeat first | exact .head _ | apply List.Mem.tail) (And.intro (by repeat first | exact .head _ | apply List.Mem.tail) trivial))) ?_
    rintro ⟨A3, k3⟩ hcap3
    dsimp only at hcap3
    dsimp only [List.cons_append, List.nil_append]
    refine BJ_callX 9 rfl (by kernel_rfl) rfl rfl rfl rfl rfl (And.intro (.inr (by repeat first | exact .head _ | apply List.Mem.tail)) (And.intro (.inr (by repeat first | exact .head _ | apply List.Mem.tail)) (And.intro (.inr (by repeat first | exact .head _ | apply List.Mem.tail)) (And.intro (.inr (by repeat first | exact .head _ | apply List.Mem.tail)) (trivial))))) (nof_c hy.1.i64) (AllIn.sub (by first | exact trivial | exact And.intro (by repeat first | exact .head _ | apply List.Mem.tail) trivial | exact And.intro (by repeat first | exact .head _ | apply List.Mem.tail) (And.intro (by repeat first | exact .head _ | apply List.Mem.tail) trivial))) ?_
    rintro ⟨A4, k4⟩ hcap4
    dsimp only at hcap4
    dsimp only [List.cons_append, List.nil_append]
    refine BJ_callX 12 rfl (by kernel_rfl) rfl rfl rfl rfl rfl (And.intro (.inr (by repeat first | exact .head _ | apply List.Mem.tail)) (And.intro (.inr (by repeat first | exact .head _ | apply List.Mem.tail)) (And.intro (.inr (by repeat first | exact .head _ | apply List.Mem.tail)) (And.intro (.inr (by repeat first | exact .head _ | apply List.Mem.tail)) (trivial))))) (nof_c hy.2.i64) (AllIn.sub (by first | exact trivial | exact And.intro (by repeat first | exact .head _ | apply List.Mem.tail) trivial | exact And.intro (by repeat first | exact .head _ | apply List.Mem.tail) (And.intro (by repeat first | exact .head _ | apply List.Mem.tail) trivial))) ?_
    rintro ⟨A5, k5⟩ hcap5
    dsimp only at hcap5
    dsimp only [List.cons_append, List.nil_append]
    refine BJ_callX 13 rfl (by kernel_rfl) rfl rfl rfl rfl rfl (And.intro (.inr (by repeat first | exact .head _ | apply List.Mem.tail)) (And.intro (.inr (by repeat first | exact .head _ | apply List.Mem.tail)) (And.intro (.inr (by repeat first | exact .head _ | apply List.Mem.tail)) (And.intro (.inr (by repeat first | exact .head _ | apply List.Mem.tail)) (trivial))))) (ldet_c (a := (l.getD i (0, 0)).1) (e := (l.getD i (0, 0)).2) (c := (l.getD ((i + 1) % l.length) (0, 0)).1) (d := (l.getD ((i + 1) % l.length) (0, 0)).2) (Nat.le_trans (dl_i64 hx.1.i64) (by decide)) (Nat.le_trans (dl_i64 hx.2.i64) (by decide)) (Nat.le_trans (dl_i64 hy.1.i64) (by decide)) (Nat.le_trans (dl_i64 hy.2.i64) (by decide)) hcap2 hcap3 hcap4 hcap5) (AllIn.sub (And.intro (by repeat first | exact .head _ | apply List.Mem.tail) (And.intro (by repeat first | exact .head _ | apply List.Mem.tail) (And.intro (by repeat first | exact .head _ | apply List.Mem.tail) (And.intro (by repeat first | exact .head _ | apply List.Mem.tail) trivial))))) ?_
    rintro ⟨A6, k6⟩ hcap6
    dsimp only at hcap6
    dsimp only [List.cons_append, List.nil_append]
    refine BJ_callX 14 rfl (by kernel_rfl) rfl rfl rfl rfl rfl (And.intro (.inr (by repeat first | exact .head _ | apply List.Mem.tail)) (And.intro (.inr (by repeat first | exact .head _ | apply List.Mem.tail)) (And.intro (.inr (by repeat first | exact .head _ | apply List.Mem.tail)) (And.intro (.inr (by repeat first | exact .head _ | apply List.Mem.tail)) (trivial))))) (show Tri _ _ _ _ _ (RetN (shoe l (i + 1))) from nadd_c (a := shoe l i) (b := (l.getD i (0, 0)).1 * (l.getD ((i + 1) % l.length) (0, 0)).2 - (l.getD i (0, 0)).2 * (l.getD ((i + 1) % l.length) (0, 0)).1) (by omega) (Nat.le_trans (dl_sub (dl_mul (dl_i64 hx.1.i64) (dl_i64 hy.2.i64)) (dl_mul (dl_i64 hx.2.i64) (dl_i64 hy.1.i64))) (by decide)) hk hcap6) (AllIn.sub (And.intro (by repeat first | exact .head _ | apply List.Mem.tail) (And.intro (by repeat first | exact .head _ | apply List.Mem.tail) trivial))) ?_
    rintro ⟨A7, k7⟩ hcap7
    dsimp only at hcap7
    dsimp only [List.cons_append, List.nil_append]
    refine BJ_store (cs' := #[_, _]) (μ' := [_, _, _, _]) 15 2 rfl (by kernel_rfl) rfl rfl rfl rfl tyi_29 rfl (Nat.le_of_ble_eq_true rfl) rfl rfl rfl (And.intro (.inr (by repeat first | exact .head _ | apply List.Mem.tail)) (And.intro (.inr (by repeat first | exact .head _ | apply List.Mem.tail)) (And.intro (.inl rfl) (And.intro (.inr (by repeat first | exact .head _ | apply List.Mem.tail)) (trivial))))) ?_
    refine BJ_done (by kernel_rfl) ?_
    refine QJ_in_normal ?_
    refine QJ_then ?_
    refine CJ_reg ?_
    first | refine LJ_y rfl rfl (YJ_bin rfl rfl (iop_add (by omega))) ?_ | refine LJ_y rfl rfl (YJ_bin rfl rfl rfl) ?_
    refine LJ_freeze ?_
    refine LJ_y rfl rfl (YJ_move rfl) ?_
    refine LJ_freeze ?_
    refine LJ_nil ?_
    refine QJ_round (F := fun (x : Nat × Option Addr × Nat) => ⟨[(0, .slice A0 l.length c0), (2, .pointer (some ⟨b1, 0, none⟩)), (3, .pointer (some ⟨b2, 0, none⟩)), (8, .slice A0 l.length c0), (9, .int .i64 (l.length : Int)), (10, .int .i64 (x.1 : Int))], [cellsR b2 #[.bool (decide (shoe l x.1 < 0)), .slice x.2.1 (dl (shoe l x.1)) x.2.2] 29, cellsR b1 #[.bool false, .slice none 0 0] 29], [numF (shoe l x.1) x.2.1, sliceR 2 A0 l.length (ptCells l)]⟩) (I := fun (x : Nat × Option Addr × Nat) => x.1 ≤ l.length ∧ dl (shoe l x.1) ≤ x.1 * 10 ∧ dl (shoe l x.1) ≤ x.2.2) (m := fun (x : Nat × Option Addr × Nat) => l.length - x.1) (i := (i, A, k)) ((i + 1, A7, k7)) (μr := []) ⟨by omega, shoe_dl hb hx hy, hcap7⟩ (by omega) (And.intro rfl (And.intro rfl (And.intro rfl (And.intro rfl (And.intro rfl (And.intro rfl (trivial))))))) (List.Perm.refl _) ((AllIn.sub (And.intro (by repeat first | exact .head _ | apply List.Mem.tail) (And.intro (by repeat first | exact .head _ | apply List.Mem.tail) trivial))))
  · try simp only [decide_eq_true_eq, decide_eq_false_iff_not, Bool.not_eq_true', Bool.not_eq_false', Bool.and_eq_true, Bool.and_eq_false_iff, beq_iff_eq, bne_iff_ne, beq_eq_false_iff_ne, bne_eq_false_iff_eq, ne_eq, decide_eq_decide] at h11
    obtain rfl : i = l.length := by omega
    refine CJ_exit ?_
    refine QJ_then_exit ?_
    refine QJ_then_exit ?_
    refine QJ_in_exit ?_
    refine QJ_then ?_
    refine CJ_seq ?_
    refine CJ_reg ?_
    first | refine LJ_y rfl rfl (YJ_loadN (vs := [_, _]) rfl tyi_29 (by repeat first | exact .head _ | apply List.Mem.tail) rfl rfl) ?_ | refine LJ_y rfl rfl (YJ_loadFactN (vs := [_, _]) rfl tyi_29 (by repeat first | exact .head _ | apply List.Mem.tail) rfl rfl) ?_
    refine LJ_store (cs' := #[_, _]) (μ' := [_, _]) 1 rfl rfl rfl rfl tyi_29 rfl (Nat.le_of_ble_eq_true rfl) rfl rfl rfl ?_
    refine LJ_nil ?_
    refine QJ_then ?_
    refine CJ_ret ?_
    refine QJ_fin (.inl rfl) (μ' := []) (μr := _) (φ' := [numF (shoe l l.length) A]) (res_cell (vs := [_, _]) rfl rfl (by repeat first | exact .head _ | apply List.Mem.tail) tyi_29 rfl) (List.Perm.refl _) (AllIn.sub (And.intro (.head _) trivial)) ?_
    exact ⟨(A, k), hk, rfl, rfl, rfl⟩

end Go.Proofs.Ytggbdfnoehienaa
