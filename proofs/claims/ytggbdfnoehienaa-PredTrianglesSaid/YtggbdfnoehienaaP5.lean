/- The walk of the law's power of a point. -/
import Derived.Test.YtggbdfnoehienaaQ2
set_option linter.unusedSimpArgs false
set_option linter.unusedVariables false
namespace Go.Proofs.Ytggbdfnoehienaa
open Go.RowKit

theorem ent_39 : Enter Try.prog 39 = true := by kernel_rfl

set_option maxRecDepth 100000 in
set_option maxHeartbeats 8000000 in
theorem lpower_c {a1 a2 e1 e2 c1 c2 d1 d2 : Int} (ha : P2 a1 a2) (he : P2 e1 e2) (hc : P2 c1 c2) (hd : P2 d1 d2) : Tri Try.prog 39 [ptv a1 a2, ptv e1 e2, ptv c1 c2, ptv d1 d2] [] [] (Ret0 (.int .i64 (-sgn (Inc a1 a2 e1 e2 c1 c2 d1 d2) * sgn (A2 a1 a2 e1 e2 c1 c2)))) := by
  refine Tri_of (N := 94) Try.func39 rfl ent_39 rfl rfl ?_
  intro w0 S0 T0
  show CJ _ _ _ [(0, _), (1, _), (2, _), (3, _)] _ _
  refine CJ_seq ?_
  refine CJ_reg ?_
  refine LJ_box (cs := #[_, _]) rfl rfl rfl rfl ?_
  intro b1
  refine LJ_box (cs := #[_, _]) rfl rfl rfl rfl ?_
  intro b2
  refine LJ_box (cs := #[_, _]) rfl rfl rfl rfl ?_
  intro b3
  refine LJ_box (cs := #[_, _]) rfl rfl rfl rfl ?_
  intro b4
  refine LJ_y rfl rfl (YJ_assign rfl) ?_
  refine LJ_nil ?_
  refine QJ_then ?_
  refine CJ_seq ?_
  refine CJ_regDA mix (by kernel_rfl) (fun _ _ _ _ _ h => h) _ _ (fun _ h => h) (fun _ h => h) [⟨20, 9, 29, #[.bool false, .slice none 0 0]⟩, ⟨21, 10, 29, #[.bool false, .slice none 0 0]⟩, ⟨22, 11, 29, #[.bool false, .slice none 0 0]⟩, ⟨23, 12, 29, #[.bool false, .slice none 0 0]⟩] 24 rfl (And.intro ⟨_, _, _, _, rfl, zer_29, rfl⟩ (And.intro ⟨_, _, _, _, rfl, zer_29, rfl⟩ (And.intro ⟨_, _, _, _, rfl, zer_29, rfl⟩ (And.intro ⟨_, _, _, _, rfl, zer_29, rfl⟩ (trivial))))) rfl rfl ?_
  first | refine AA_y 0 rfl (by kernel_rfl) rfl rfl rfl (YJ_fieldOwn rfl fld_53_0 rfl) ?_ | refine AA_y 0 rfl (by kernel_rfl) rfl rfl rfl (YJ_fieldAddr rfl fld_53_0) ?_
  first | refine AA_y 1 rfl (by kernel_rfl) rfl rfl rfl (YJ_loadL rfl tyi_3 (by repeat first | exact .head _ | apply List.Mem.tail) rfl) ?_ | refine AA_y 1 rfl (by kernel_rfl) rfl rfl rfl (YJ_loadFact rfl tyi_3 (by repeat first | exact .head _ | apply List.Mem.tail) rfl) ?_
  first | refine AA_y 2 rfl (by kernel_rfl) rfl rfl rfl (YJ_fieldOwn rfl fld_53_0 rfl) ?_ | refine AA_y 2 rfl (by kernel_rfl) rfl rfl rfl (YJ_fieldAddr rfl fld_53_0) ?_
  first | refine AA_y 3 rfl (by kernel_rfl) rfl rfl rfl (YJ_loadL rfl tyi_3 (by repeat first | exact .head _ | apply List.Mem.tail) rfl) ?_ | refine AA_y 3 rfl (by kernel_rfl) rfl rfl rfl (YJ_loadFact rfl tyi_3 (by repeat first | exact .head _ | apply List.Mem.tail) rfl) ?_
  first | refine AA_y 5 rfl (by kernel_rfl) rfl rfl rfl (YJ_fieldOwn rfl fld_53_1 rfl) ?_ | refine AA_y 5 rfl (by kernel_rfl) rfl rfl rfl (YJ_fieldAddr rfl fld_53_1) ?_
  first | refine AA_y 6 rfl (by kernel_rfl) rfl rfl rfl (YJ_loadL rfl tyi_3 (by repeat first | exact .head _ | apply List.Mem.tail) rfl) ?_ | refine AA_y 6 rfl (by kernel_rfl) rfl rfl rfl (YJ_loadFact rfl tyi_3 (by repeat first | exact .head _ | apply List.Mem.tail) rfl) ?_
  first | refine AA_y 7 rfl (by kernel_rfl) rfl rfl rfl (YJ_fieldOwn rfl fld_53_1 rfl) ?_ | refine AA_y 7 rfl (by kernel_rfl) rfl rfl rfl (YJ_fieldAddr rfl fld_53_1) ?_
  first | refine AA_y 8 rfl (by kernel_rfl) rfl rfl rfl (YJ_loadL rfl tyi_3 (by repeat first | exact .head _ | apply List.Mem.tail) rfl) ?_ | refine AA_y 8 rfl (by kernel_rfl) rfl rfl rfl (YJ_loadFact rfl tyi_3 (by repeat first | exact .head _ | apply List.Mem.tail) rfl) ?_
  first | refine AA_y 10 rfl (by kernel_rfl) rfl rfl rfl (YJ_fieldOwn rfl fld_53_0 rfl) ?_ | refine AA_y 10 rfl (by kernel_rfl) rfl rfl rfl (YJ_fieldAddr rfl fld_53_0) ?_
  first | refine AA_y 11 rfl (by kernel_rfl) rfl rfl rfl (YJ_loadL rfl tyi_3 (by repeat first | exact .head _ | apply List.Mem.tail) rfl) ?_ | refine AA_y 11 rfl (by kernel_rfl) rfl rfl rfl (YJ_loadFact rfl tyi_3 (by repeat first | exact .head _ | apply List.Mem.tail) rfl) ?_
  first | refine AA_y 12 rfl (by kernel_rfl) rfl rfl rfl (YJ_fieldOwn rfl fld_53_0 rfl) ?_ | refine AA_y 12 rfl (by kernel_rfl) rfl rfl rfl (YJ_fieldAddr rfl fld_53_0) ?_
  first | refine AA_y 13 rfl (by kernel_rfl) rfl rfl rfl (YJ_loadL rfl tyi_3 (by repeat first | exact .head _ | apply List.Mem.tail) rfl) ?_ | refine AA_y 13 rfl (by kernel_rfl) rfl rfl rfl (YJ_loadFact rfl tyi_3 (by repeat first | exact .head _ | apply List.Mem.tail) rfl) ?_
  first | refine AA_y 15 rfl (by kernel_rfl) rfl rfl rfl (YJ_fieldOwn rfl fld_53_1 rfl) ?_ | refine AA_y 15 rfl (by kernel_rfl) rfl rfl rfl (YJ_fieldAddr rfl fld_53_1) ?_
  first | refine AA_y 16 rfl (by kernel_rfl) rfl rfl rfl (YJ_loadL rfl tyi_3 (by repeat first | exact .head _ | apply List.Mem.tail) rfl) ?_ | refine AA_y 16 rfl (by kernel_rfl) rfl rfl rfl (YJ_loadFact rfl tyi_3 (by repeat first | exact .head _ | apply List.Mem.tail) rfl) ?_
  first | refine AA_y 17 rfl (by kernel_rfl) rfl rfl rfl (YJ_fieldOwn rfl fld_53_1 rfl) ?_ | refine AA_y 17 rfl (by kernel_rfl) rfl rfl rfl (YJ_fieldAddr rfl fld_53_1) ?_
  first | refine AA_y 18 rfl (by kernel_rfl) rfl rfl rfl (YJ_loadL rfl tyi_3 (by repeat first | exact .head _ | apply List.Mem.tail) rfl) ?_ | refine AA_y 18 rfl (by kernel_rfl) rfl rfl rfl (YJ_loadFact rfl tyi_3 (by repeat first | exact .head _ | apply List.Mem.tail) rfl) ?_
  refine AA_callX 4 rfl (by kernel_rfl) rfl rfl rfl rfl rfl rfl rfl (less_c he.1 ha.1) (AllIn.sub (by first | exact trivial | exact And.intro (by repeat first | exact .head _ | apply List.Mem.tail) trivial | exact And.intro (by repeat first | exact .head _ | apply List.Mem.tail) (And.intro (by repeat first | exact .head _ | apply List.Mem.tail) trivial))) ?_
  rintro ⟨Z1, k1⟩ hcap1
  dsimp only at hcap1
  dsimp only [List.cons_append, List.nil_append]
  refine AA_callX 9 rfl (by kernel_rfl) rfl rfl rfl rfl rfl rfl rfl (less_c he.2 ha.2) (AllIn.sub (by first | exact trivial | exact And.intro (by repeat first | exact .head _ | apply List.Mem.tail) trivial | exact And.intro (by repeat first | exact .head _ | apply List.Mem.tail) (And.intro (by repeat first | exact .head _ | apply List.Mem.tail) trivial))) ?_
  rintro ⟨Z2, k2⟩ hcap2
  dsimp only at hcap2
  dsimp only [List.cons_append, List.nil_append]
  refine AA_callX 14 rfl (by kernel_rfl) rfl rfl rfl rfl rfl rfl rfl (less_c hc.1 ha.1) (AllIn.sub (by first | exact trivial | exact And.intro (by repeat first | exact .head _ | apply List.Mem.tail) trivial | exact And.intro (by repeat first | exact .head _ | apply List.Mem.tail) (And.intro (by repeat first | exact .head _ | apply List.Mem.tail) trivial))) ?_
  rintro ⟨Z3, k3⟩ hcap3
  dsimp only at hcap3
  dsimp only [List.cons_append, List.nil_append]
  refine AA_callX 19 rfl (by kernel_rfl) rfl rfl rfl rfl rfl rfl rfl (less_c hc.2 ha.2) (AllIn.sub (by first | exact trivial | exact And.intro (by repeat first | exact .head _ | apply List.Mem.tail) trivial | exact And.intro (by repeat first | exact .head _ | apply List.Mem.tail) (And.intro (by repeat first | exact .head _ | apply List.Mem.tail) trivial))) ?_
  rintro ⟨Z4, k4⟩ hcap4
  dsimp only at hcap4
  dsimp only [List.cons_append, List.nil_append]
  refine AA_end (by kernel_rfl) rfl ?_
  intro bs hbs
  obtain ⟨b5, b6, b7, b8, rfl⟩ := len_4 hbs
  clear hbs
  show AJ _ _ _ _ _ _ _ ((9, .pointer (some ⟨b5, 0, none⟩)) :: (10, .pointer (some ⟨b6, 0, none⟩)) :: (11, .pointer (some ⟨b7, 0, none⟩)) :: (12, .pointer (some ⟨b8, 0, none⟩)) :: _) (cellsR b5 _ _ :: cellsR b6 _ _ :: cellsR b7 _ _ :: cellsR b8 _ _ :: _) _
  refine AJ_store (cs' := #[_, _]) (μ' := [_, _, _, _, _, _, _, _]) 24 0 rfl (by kernel_rfl) rfl rfl rfl rfl tyi_29 rfl (Nat.le_of_ble_eq_true rfl) rfl rfl rfl (fun _ => AllIn.sub (And.intro (by repeat first | exact .head _ | apply List.Mem.tail) (And.intro (by repeat first | exact .head _ | apply List.Mem.tail) (And.intro (by repeat first | exact .head _ | apply List.Mem.tail) (And.intro (by repeat first | exact .head _ | apply List.Mem.tail) (trivial)))))) ?_
  refine AJ_store (cs' := #[_, _]) (μ' := [_, _, _, _, _, _, _, _]) 25 1 rfl (by kernel_rfl) rfl rfl rfl rfl tyi_29 rfl (Nat.le_of_ble_eq_true rfl) rfl rfl rfl (fun _ => AllIn.sub (And.intro (by repeat first | exact .head _ | apply List.Mem.tail) (And.intro (by repeat first | exact .head _ | apply List.Mem.tail) (And.intro (by repeat first | exact .head _ | apply List.Mem.tail) (And.intro (by repeat first | exact .head _ | apply List.Mem.tail) (trivial)))))) ?_
  refine AJ_store (cs' := #[_, _]) (μ' := [_, _, _, _, _, _, _, _]) 26 2 rfl (by kernel_rfl) rfl rfl rfl rfl tyi_29 rfl (Nat.le_of_ble_eq_true rfl) rfl rfl rfl (fun _ => AllIn.sub (And.intro (by repeat first | exact .head _ | apply List.Mem.tail) (And.intro (by repeat first | exact .head _ | apply List.Mem.tail) (And.intro (by repeat first | exact .head _ | apply List.Mem.tail) (And.intro (by repeat first | exact .head _ | apply List.Mem.tail) (trivial)))))) ?_
  refine AJ_store (cs' := #[_, _]) (μ' := [_, _, _, _, _, _, _, _]) 27 3 rfl (by kernel_rfl) rfl rfl rfl rfl tyi_29 rfl (Nat.le_of_ble_eq_true rfl) rfl rfl rfl (fun _ => AllIn.sub (And.intro (by repeat first | exact .head _ | apply List.Mem.tail) (And.intro (by repeat first | exact .head _ | apply List.Mem.tail) (And.intro (by repeat first | exact .head _ | apply List.Mem.tail) (And.intro (by repeat first | exact .head _ | apply List.Mem.tail) (trivial)))))) ?_
  refine AJ_done (by kernel_rfl) ?_
  refine QJ_then ?_
  refine CJ_seq ?_
  refine CJ_regDA mix (by kernel_rfl) (fun _ _ _ _ _ h => h) _ _ (fun _ h => h) (fun _ h => h) [⟨10, 13, 29, #[.bool false, .slice none 0 0]⟩, ⟨11, 14, 29, #[.bool false, .slice none 0 0]⟩] 12 rfl (And.intro ⟨_, _, _, _, rfl, zer_29, rfl⟩ (And.intro ⟨_, _, _, _, rfl, zer_29, rfl⟩ (trivial))) rfl rfl ?_
  first | refine AA_y 0 rfl (by kernel_rfl) rfl rfl rfl (YJ_fieldOwn rfl fld_53_0 rfl) ?_ | refine AA_y 0 rfl (by kernel_rfl) rfl rfl rfl (YJ_fieldAddr rfl fld_53_0) ?_
  first | refine AA_y 1 rfl (by kernel_rfl) rfl rfl rfl (YJ_loadL rfl tyi_3 (by repeat first | exact .head _ | apply List.Mem.tail) rfl) ?_ | refine AA_y 1 rfl (by kernel_rfl) rfl rfl rfl (YJ_loadFact rfl tyi_3 (by repeat first | exact .head _ | apply List.Mem.tail) rfl) ?_
  first | refine AA_y 2 rfl (by kernel_rfl) rfl rfl rfl (YJ_fieldOwn rfl fld_53_0 rfl) ?_ | refine AA_y 2 rfl (by kernel_rfl) rfl rfl rfl (YJ_fieldAddr rfl fld_53_0) ?_
  first | refine AA_y 3 rfl (by kernel_rfl) rfl rfl rfl (YJ_loadL rfl tyi_3 (by repeat first | exact .head _ | apply List.Mem.tail) rfl) ?_ | refine AA_y 3 rfl (by kernel_rfl) rfl rfl rfl (YJ_loadFact rfl tyi_3 (by repeat first | exact .head _ | apply List.Mem.tail) rfl) ?_
  first | refine AA_y 5 rfl (by kernel_rfl) rfl rfl rfl (YJ_fieldOwn rfl fld_53_1 rfl) ?_ | refine AA_y 5 rfl (by kernel_rfl) rfl rfl rfl (YJ_fieldAddr rfl fld_53_1) ?_
  first | refine AA_y 6 rfl (by kernel_rfl) rfl rfl rfl (YJ_loadL rfl tyi_3 (by repeat first | exact .head _ | apply List.Mem.tail) rfl) ?_ | refine AA_y 6 rfl (by kernel_rfl) rfl rfl rfl (YJ_loadFact rfl tyi_3 (by repeat first | exact .head _ | apply List.Mem.tail) rfl) ?_
  first | refine AA_y 7 rfl (by kernel_rfl) rfl rfl rfl (YJ_fieldOwn rfl fld_53_1 rfl) ?_ | refine AA_y 7 rfl (by kernel_rfl) rfl rfl rfl (YJ_fieldAddr rfl fld_53_1) ?_
  first | refine AA_y 8 rfl (by kernel_rfl) rfl rfl rfl (YJ_loadL rfl tyi_3 (by repeat first | exact .head _ | apply List.Mem.tail) rfl) ?_ | refine AA_y 8 rfl (by kernel_rfl) rfl rfl rfl (YJ_loadFact rfl tyi_3 (by repeat first | exact .head _ | apply List.Mem.tail) rfl) ?_
  refine AA_callX 4 rfl (by kernel_rfl) rfl rfl rfl rfl rfl rfl rfl (less_c hd.1 ha.1) (AllIn.sub (by first | exact trivial | exact And.intro (by repeat first | exact .head _ | apply List.Mem.tail) trivial | exact And.intro (by repeat first | exact .head _ | apply List.Mem.tail) (And.intro (by repeat first | exact .head _ | apply List.Mem.tail) trivial))) ?_
  rintro ⟨Z5, k5⟩ hcap5
  dsimp only at hcap5
  dsimp only [List.cons_append, List.nil_append]
  refine AA_callX 9 rfl (by kernel_rfl) rfl rfl rfl rfl rfl rfl rfl (less_c hd.2 ha.2) (AllIn.sub (by first | exact trivial | exact And.intro (by repeat first | exact .head _ | apply List.Mem.tail) trivial | exact And.intro (by repeat first | exact .head _ | apply List.Mem.tail) (And.intro (by repeat first | exact .head _ | apply List.Mem.tail) trivial))) ?_
  rintro ⟨Z6, k6⟩ hcap6
  dsimp only at hcap6
  dsimp only [List.cons_append, List.nil_append]
  refine AA_end (by kernel_rfl) rfl ?_
  intro bs hbs
  obtain ⟨b9, b10, rfl⟩ := len_2 hbs
  clear hbs
  show AJ _ _ _ _ _ _ _ ((13, .pointer (some ⟨b9, 0, none⟩)) :: (14, .pointer (some ⟨b10, 0, none⟩)) :: _) (cellsR b9 _ _ :: cellsR b10 _ _ :: _) _
  refine AJ_store (cs' := #[_, _]) (μ' := [_, _, _, _, _, _, _, _, _, _]) 12 0 rfl (by kernel_rfl) rfl rfl rfl rfl tyi_29 rfl (Nat.le_of_ble_eq_true rfl) rfl rfl rfl (fun _ => AllIn.sub (And.intro (by repeat first | exact .head _ | apply List.Mem.tail) (And.intro (by repeat first | exact .head _ | apply List.Mem.tail) (And.intro (by repeat first | exact .head _ | apply List.Mem.tail) (And.intro (by repeat first | exact .head _ | apply List.Mem.tail) (And.intro (by repeat first | exact .head _ | apply List.Mem.tail) (And.intro (by repeat first | exact .head _ | apply List.Mem.tail) (And.intro (by repeat first | exact .head _ | apply List.Mem.tail) (And.intro (by repeat first | exact .head _ | apply List.Mem.tail) (trivial)))))))))) ?_
  refine AJ_store (cs' := #[_, _]) (μ' := [_, _, _, _, _, _, _, _, _, _]) 13 1 rfl (by kernel_rfl) rfl rfl rfl rfl tyi_29 rfl (Nat.le_of_ble_eq_true rfl) rfl rfl rfl (fun _ => AllIn.sub (And.intro (by repeat first | exact .head _ | apply List.Mem.tail) (And.intro (by repeat first | exact .head _ | apply List.Mem.tail) (And.intro (by repeat first | exact .head _ | apply List.Mem.tail) (And.intro (by repeat first | exact .head _ | apply List.Mem.tail) (And.intro (by repeat first | exact .head _ | apply List.Mem.tail) (And.intro (by repeat first | exact .head _ | apply List.Mem.tail) (And.intro (by repeat first | exact .head _ | apply List.Mem.tail) (And.intro (by repeat first | exact .head _ | apply List.Mem.tail) (trivial)))))))))) ?_
  refine AJ_done (by kernel_rfl) ?_
  refine QJ_then ?_
  refine CJ_seq ?_
  refine CJ_regDA mix (by kernel_rfl) (fun _ _ _ _ _ h => h) _ _ (fun _ h => h) (fun _ h => h) [⟨7, 15, 29, #[.bool false, .slice none 0 0]⟩] 8 rfl (And.intro ⟨_, _, _, _, rfl, zer_29, rfl⟩ (trivial)) rfl rfl ?_
  first | refine AA_y 1 rfl (by kernel_rfl) rfl rfl rfl (YJ_loadN (vs := [_, _]) rfl tyi_29 (by repeat first | exact .head _ | apply List.Mem.tail) rfl rfl) ?_ | refine AA_y 1 rfl (by kernel_rfl) rfl rfl rfl (YJ_loadFactN (vs := [_, _]) rfl tyi_29 (by repeat first | exact .head _ | apply List.Mem.tail) rfl rfl) ?_
  first | refine AA_y 2 rfl (by kernel_rfl) rfl rfl rfl (YJ_loadN (vs := [_, _]) rfl tyi_29 (by repeat first | exact .head _ | apply List.Mem.tail) rfl rfl) ?_ | refine AA_y 2 rfl (by kernel_rfl) rfl rfl rfl (YJ_loadFactN (vs := [_, _]) rfl tyi_29 (by repeat first | exact .head _ | apply List.Mem.tail) rfl rfl) ?_
  first | refine AA_y 3 rfl (by kernel_rfl) rfl rfl rfl (YJ_loadN (vs := [_, _]) rfl tyi_29 (by repeat first | exact .head _ | apply List.Mem.tail) rfl rfl) ?_ | refine AA_y 3 rfl (by kernel_rfl) rfl rfl rfl (YJ_loadFactN (vs := [_, _]) rfl tyi_29 (by repeat first | exact .head _ | apply List.Mem.tail) rfl rfl) ?_
  first | refine AA_y 4 rfl (by kernel_rfl) rfl rfl rfl (YJ_loadN (vs := [_, _]) rfl tyi_29 (by repeat first | exact .head _ | apply List.Mem.tail) rfl rfl) ?_ | refine AA_y 4 rfl (by kernel_rfl) rfl rfl rfl (YJ_loadFactN (vs := [_, _]) rfl tyi_29 (by repeat first | exact .head _ | apply List.Mem.tail) rfl rfl) ?_
  refine AA_callX 0 rfl (by kernel_rfl) rfl rfl rfl rfl rfl rfl rfl (nof_c i64_two) (AllIn.sub (by first | exact trivial | exact And.intro (by repeat first | exact .head _ | apply List.Mem.tail) trivial | exact And.intro (by repeat first | exact .head _ | apply List.Mem.tail) (And.intro (by repeat first | exact .head _ | apply List.Mem.tail) trivial))) ?_
  rintro ⟨Z7, k7⟩ hcap7
  dsimp only at hcap7
  dsimp only [List.cons_append, List.nil_append]
  refine AA_callX 5 rfl (by kernel_rfl) rfl rfl rfl rfl rfl rfl rfl (ldet_c (a := (e1 - a1)) (e := (e2 - a2)) (c := (c1 - a1)) (d := (c2 - a2)) (Nat.le_trans (dl_r128 (Tm.d he.1 ha.1).i.r) (by decide)) (Nat.le_trans (dl_r128 (Tm.d he.2 ha.2).i.r) (by decide)) (Nat.le_trans (dl_r128 (Tm.d hc.1 ha.1).i.r) (by decide)) (Nat.le_trans (dl_r128 (Tm.d hc.2 ha.2).i.r) (by decide)) hcap1 hcap2 hcap3 hcap4) (AllIn.sub (And.intro (by repeat first | exact .head _ | apply List.Mem.tail) (And.intro (by repeat first | exact .head _ | apply List.Mem.tail) (And.intro (by repeat first | exact .head _ | apply List.Mem.tail) (And.intro (by repeat first | exact .head _ | apply List.Mem.tail) trivial))))) ?_
  rintro ⟨Z8, k8⟩ hcap8
  dsimp only at hcap8
  dsimp only [List.cons_append, List.nil_append]
  refine AA_callX 6 rfl (by kernel_rfl) rfl rfl rfl rfl rfl rfl rfl (nmul_c (a := 2) (b := (((e1 - a1) * (c2 - a2)) - ((e2 - a2) * (c1 - a1)))) (Nat.le_trans (dl_r128 r128_two) (by decide)) (Nat.le_trans (dl_sub (dl_mul (dl_r128 (Tm.d he.1 ha.1).i.r) (dl_r128 (Tm.d hc.2 ha.2).i.r)) (dl_mul (dl_r128 (Tm.d he.2 ha.2).i.r) (dl_r128 (Tm.d hc.1 ha.1).i.r))) (by decide)) hcap7 hcap8) (AllIn.sub (And.intro (by repeat first | exact .head _ | apply List.Mem.tail) (And.intro (by repeat first | exact .head _ | apply List.Mem.tail) trivial))) ?_
  rintro ⟨Z9, k9⟩ hcap9
  dsimp only at hcap9
  dsimp only [List.cons_append, List.nil_append]
  refine AA_end (by kernel_rfl) rfl ?_
  intro bs hbs
  obtain ⟨b11, rfl⟩ := len_1 hbs
  clear hbs
  show AJ _ _ _ _ _ _ _ ((15, .pointer (some ⟨b11, 0, none⟩)) :: _) (cellsR b11 _ _ :: _) _
  refine AJ_store (cs' := #[_, _]) (μ' := [_, _, _, _, _, _, _, _, _, _, _]) 8 0 rfl (by kernel_rfl) rfl rfl rfl rfl tyi_29 rfl (Nat.le_of_ble_eq_true rfl) rfl rfl rfl (fun _ => AllIn.sub (And.intro (by repeat first | exact .head _ | apply List.Mem.tail) (And.intro (by repeat first | exact .head _ | apply List.Mem.tail) (And.intro (by repeat first | exact .head _ | apply List.Mem.tail) (And.intro (by repeat first | exact .head _ | apply List.Mem.tail) (And.intro (by repeat first | exact .head _ | apply List.Mem.tail) (And.intro (by repeat first | exact .head _ | apply List.Mem.tail) (And.intro (by repeat first | exact .head _ | apply List.Mem.tail) (And.intro (by repeat first | exact .head _ | apply List.Mem.tail) (And.intro (by repeat first | exact .head _ | apply List.Mem.tail) (And.intro (by repeat first | exact .head _ | apply List.Mem.tail) (trivial)))))))))))) ?_
  refine AJ_done (by kernel_rfl) ?_
  refine QJ_then ?_
  refine CJ_seq ?_
  refine CJ_regDA mix (by kernel_rfl) (fun _ _ _ _ _ h => h) _ _ (fun _ h => h) (fun _ h => h) [⟨9, 16, 29, #[.bool false, .slice none 0 0]⟩] 10 rfl (And.intro ⟨_, _, _, _, rfl, zer_29, rfl⟩ (trivial)) rfl rfl ?_
  first | refine AA_y 0 rfl (by kernel_rfl) rfl rfl rfl (YJ_loadN (vs := [_, _]) rfl tyi_53 (by repeat first | exact .head _ | apply List.Mem.tail) rfl rfl) ?_ | refine AA_y 0 rfl (by kernel_rfl) rfl rfl rfl (YJ_loadFactN (vs := [_, _]) rfl tyi_53 (by repeat first | exact .head _ | apply List.Mem.tail) rfl rfl) ?_
  first | refine AA_y 1 rfl (by kernel_rfl) rfl rfl rfl (YJ_loadN (vs := [_, _]) rfl tyi_53 (by repeat first | exact .head _ | apply List.Mem.tail) rfl rfl) ?_ | refine AA_y 1 rfl (by kernel_rfl) rfl rfl rfl (YJ_loadFactN (vs := [_, _]) rfl tyi_53 (by repeat first | exact .head _ | apply List.Mem.tail) rfl rfl) ?_
  first | refine AA_y 3 rfl (by kernel_rfl) rfl rfl rfl (YJ_loadN (vs := [_, _]) rfl tyi_29 (by repeat first | exact .head _ | apply List.Mem.tail) rfl rfl) ?_ | refine AA_y 3 rfl (by kernel_rfl) rfl rfl rfl (YJ_loadFactN (vs := [_, _]) rfl tyi_29 (by repeat first | exact .head _ | apply List.Mem.tail) rfl rfl) ?_
  first | refine AA_y 4 rfl (by kernel_rfl) rfl rfl rfl (YJ_loadN (vs := [_, _]) rfl tyi_53 (by repeat first | exact .head _ | apply List.Mem.tail) rfl rfl) ?_ | refine AA_y 4 rfl (by kernel_rfl) rfl rfl rfl (YJ_loadFactN (vs := [_, _]) rfl tyi_53 (by repeat first | exact .head _ | apply List.Mem.tail) rfl rfl) ?_
  first | refine AA_y 5 rfl (by kernel_rfl) rfl rfl rfl (YJ_loadN (vs := [_, _]) rfl tyi_53 (by repeat first | exact .head _ | apply List.Mem.tail) rfl rfl) ?_ | refine AA_y 5 rfl (by kernel_rfl) rfl rfl rfl (YJ_loadFactN (vs := [_, _]) rfl tyi_53 (by repeat first | exact .head _ | apply List.Mem.tail) rfl rfl) ?_
  first | refine AA_y 7 rfl (by kernel_rfl) rfl rfl rfl (YJ_loadN (vs := [_, _]) rfl tyi_29 (by repeat first | exact .head _ | apply List.Mem.tail) rfl rfl) ?_ | refine AA_y 7 rfl (by kernel_rfl) rfl rfl rfl (YJ_loadFactN (vs := [_, _]) rfl tyi_29 (by repeat first | exact .head _ | apply List.Mem.tail) rfl rfl) ?_
  refine AA_callX 2 rfl (by kernel_rfl) rfl rfl rfl rfl rfl rfl rfl (square_c ha he) (AllIn.sub (by first | exact trivial | exact And.intro (by repeat first | exact .head _ | apply List.Mem.tail) trivial | exact And.intro (by repeat first | exact .head _ | apply List.Mem.tail) (And.intro (by repeat first | exact .head _ | apply List.Mem.tail) trivial))) ?_
  rintro ⟨Z10, k10⟩ hcap10
  dsimp only at hcap10
  dsimp only [List.cons_append, List.nil_append]
  refine AA_callX 6 rfl (by kernel_rfl) rfl rfl rfl rfl rfl rfl rfl (square_c ha hc) (AllIn.sub (by first | exact trivial | exact And.intro (by repeat first | exact .head _ | apply List.Mem.tail) trivial | exact And.intro (by repeat first | exact .head _ | apply List.Mem.tail) (And.intro (by repeat first | exact .head _ | apply List.Mem.tail) trivial))) ?_
  rintro ⟨Z11, k11⟩ hcap11
  dsimp only at hcap11
  dsimp only [List.cons_append, List.nil_append]
  refine AA_callX 8 rfl (by kernel_rfl) rfl rfl rfl rfl rfl rfl rfl (ldet_c (a := (((a1 - e1) * (a1 - e1)) + ((a2 - e2) * (a2 - e2)))) (e := (e2 - a2)) (c := (((a1 - c1) * (a1 - c1)) + ((a2 - c2) * (a2 - c2)))) (d := (c2 - a2)) (Nat.le_trans (dl_add (dl_mul (dl_r128 (Tm.d ha.1 he.1).i.r) (dl_r128 (Tm.d ha.1 he.1).i.r)) (dl_mul (dl_r128 (Tm.d ha.2 he.2).i.r) (dl_r128 (Tm.d ha.2 he.2).i.r))) (by decide)) (Nat.le_trans (dl_r128 (Tm.d he.2 ha.2).i.r) (by decide)) (Nat.le_trans (dl_add (dl_mul (dl_r128 (Tm.d ha.1 hc.1).i.r) (dl_r128 (Tm.d ha.1 hc.1).i.r)) (dl_mul (dl_r128 (Tm.d ha.2 hc.2).i.r) (dl_r128 (Tm.d ha.2 hc.2).i.r))) (by decide)) (Nat.le_trans (dl_r128 (Tm.d hc.2 ha.2).i.r) (by decide)) hcap10 hcap2 hcap11 hcap4) (AllIn.sub (And.intro (by repeat first | exact .head _ | apply List.Mem.tail) (And.intro (by repeat first | exact .head _ | apply List.Mem.tail) (And.intro (by repeat first | exact .head _ | apply List.Mem.tail) (And.intro (by repeat first | exact .head _ | apply List.Mem.tail) trivial))))) ?_
  rintro ⟨Z12, k12⟩ hcap12
  dsimp only at hcap12
  dsimp only [List.cons_append, List.nil_append]
  refine AA_end (by kernel_rfl) rfl ?_
  intro bs hbs
  obtain ⟨b12, rfl⟩ := len_1 hbs
  clear hbs
  show AJ _ _ _ _ _ _ _ ((16, .pointer (some ⟨b12, 0, none⟩)) :: _) (cellsR b12 _ _ :: _) _
  refine AJ_store (cs' := #[_, _]) (μ' := [_, _, _, _, _, _, _, _, _, _, _, _]) 10 0 rfl (by kernel_rfl) rfl rfl rfl rfl tyi_29 rfl (Nat.le_of_ble_eq_true rfl) rfl rfl rfl (fun _ => AllIn.sub (And.intro (by repeat first | exact .head _ | apply List.Mem.tail) (And.intro (by repeat first | exact .head _ | apply List.Mem.tail) (And.intro (by repeat first | exact .head _ | apply List.Mem.tail) (And.intro (by repeat first | exact .head _ | apply List.Mem.tail) (And.intro (by repeat first | exact .head _ | apply List.Mem.tail) (And.intro (by repeat first | exact .head _ | apply List.Mem.tail) (And.intro (by repeat first | exact .head _ | apply List.Mem.tail) (And.intro (by repeat first | exact .head _ | apply List.Mem.tail) (And.intro (by repeat first | exact .head _ | apply List.Mem.tail) (And.intro (by repeat first | exact .head _ | apply List.Mem.tail) (And.intro (by repeat first | exact .head _ | apply List.Mem.tail) (trivial))))))))))))) ?_
  refine AJ_done (by kernel_rfl) ?_
  refine QJ_then ?_
  refine CJ_seq ?_
  refine CJ_regDA mix (by kernel_rfl) (fun _ _ _ _ _ h => h) _ _ (fun _ h => h) (fun _ h => h) [⟨9, 17, 29, #[.bool false, .slice none 0 0]⟩] 10 rfl (And.intro ⟨_, _, _, _, rfl, zer_29, rfl⟩ (trivial)) rfl rfl ?_
  first | refine AA_y 0 rfl (by kernel_rfl) rfl rfl rfl (YJ_loadN (vs := [_, _]) rfl tyi_29 (by repeat first | exact .head _ | apply List.Mem.tail) rfl rfl) ?_ | refine AA_y 0 rfl (by kernel_rfl) rfl rfl rfl (YJ_loadFactN (vs := [_, _]) rfl tyi_29 (by repeat first | exact .head _ | apply List.Mem.tail) rfl rfl) ?_
  first | refine AA_y 1 rfl (by kernel_rfl) rfl rfl rfl (YJ_loadN (vs := [_, _]) rfl tyi_53 (by repeat first | exact .head _ | apply List.Mem.tail) rfl rfl) ?_ | refine AA_y 1 rfl (by kernel_rfl) rfl rfl rfl (YJ_loadFactN (vs := [_, _]) rfl tyi_53 (by repeat first | exact .head _ | apply List.Mem.tail) rfl rfl) ?_
  first | refine AA_y 2 rfl (by kernel_rfl) rfl rfl rfl (YJ_loadN (vs := [_, _]) rfl tyi_53 (by repeat first | exact .head _ | apply List.Mem.tail) rfl rfl) ?_ | refine AA_y 2 rfl (by kernel_rfl) rfl rfl rfl (YJ_loadFactN (vs := [_, _]) rfl tyi_53 (by repeat first | exact .head _ | apply List.Mem.tail) rfl rfl) ?_
  first | refine AA_y 4 rfl (by kernel_rfl) rfl rfl rfl (YJ_loadN (vs := [_, _]) rfl tyi_29 (by repeat first | exact .head _ | apply List.Mem.tail) rfl rfl) ?_ | refine AA_y 4 rfl (by kernel_rfl) rfl rfl rfl (YJ_loadFactN (vs := [_, _]) rfl tyi_29 (by repeat first | exact .head _ | apply List.Mem.tail) rfl rfl) ?_
  first | refine AA_y 5 rfl (by kernel_rfl) rfl rfl rfl (YJ_loadN (vs := [_, _]) rfl tyi_53 (by repeat first | exact .head _ | apply List.Mem.tail) rfl rfl) ?_ | refine AA_y 5 rfl (by kernel_rfl) rfl rfl rfl (YJ_loadFactN (vs := [_, _]) rfl tyi_53 (by repeat first | exact .head _ | apply List.Mem.tail) rfl rfl) ?_
  first | refine AA_y 6 rfl (by kernel_rfl) rfl rfl rfl (YJ_loadN (vs := [_, _]) rfl tyi_53 (by repeat first | exact .head _ | apply List.Mem.tail) rfl rfl) ?_ | refine AA_y 6 rfl (by kernel_rfl) rfl rfl rfl (YJ_loadFactN (vs := [_, _]) rfl tyi_53 (by repeat first | exact .head _ | apply List.Mem.tail) rfl rfl) ?_
  refine AA_callX 3 rfl (by kernel_rfl) rfl rfl rfl rfl rfl rfl rfl (square_c ha he) (AllIn.sub (by first | exact trivial | exact And.intro (by repeat first | exact .head _ | apply List.Mem.tail) trivial | exact And.intro (by repeat first | exact .head _ | apply List.Mem.tail) (And.intro (by repeat first | exact .head _ | apply List.Mem.tail) trivial))) ?_
  rintro ⟨Z13, k13⟩ hcap13
  dsimp only at hcap13
  dsimp only [List.cons_append, List.nil_append]
  refine AA_callX 7 rfl (by kernel_rfl) rfl rfl rfl rfl rfl rfl rfl (square_c ha hc) (AllIn.sub (by first | exact trivial | exact And.intro (by repeat first | exact .head _ | apply List.Mem.tail) trivial | exact And.intro (by repeat first | exact .head _ | apply List.Mem.tail) (And.intro (by repeat first | exact .head _ | apply List.Mem.tail) trivial))) ?_
  rintro ⟨Z14, k14⟩ hcap14
  dsimp only at hcap14
  dsimp only [List.cons_append, List.nil_append]
  refine AA_callX 8 rfl (by kernel_rfl) rfl rfl rfl rfl rfl rfl rfl (ldet_c (a := (e1 - a1)) (e := (((a1 - e1) * (a1 - e1)) + ((a2 - e2) * (a2 - e2)))) (c := (c1 - a1)) (d := (((a1 - c1) * (a1 - c1)) + ((a2 - c2) * (a2 - c2)))) (Nat.le_trans (dl_r128 (Tm.d he.1 ha.1).i.r) (by decide)) (Nat.le_trans (dl_add (dl_mul (dl_r128 (Tm.d ha.1 he.1).i.r) (dl_r128 (Tm.d ha.1 he.1).i.r)) (dl_mul (dl_r128 (Tm.d ha.2 he.2).i.r) (dl_r128 (Tm.d ha.2 he.2).i.r))) (by decide)) (Nat.le_trans (dl_r128 (Tm.d hc.1 ha.1).i.r) (by decide)) (Nat.le_trans (dl_add (dl_mul (dl_r128 (Tm.d ha.1 hc.1).i.r) (dl_r128 (Tm.d ha.1 hc.1).i.r)) (dl_mul (dl_r128 (Tm.d ha.2 hc.2).i.r) (dl_r128 (Tm.d ha.2 hc.2).i.r))) (by decide)) hcap1 hcap13 hcap3 hcap14) (AllIn.sub (And.intro (by repeat first | exact .head _ | apply List.Mem.tail) (And.intro (by repeat first | exact .head _ | apply List.Mem.tail) (And.intro (by repeat first | exact .head _ | apply List.Mem.tail) (And.intro (by repeat first | exact .head _ | apply List.Mem.tail) trivial))))) ?_
  rintro ⟨Z15, k15⟩ hcap15
  dsimp only at hcap15
  dsimp only [List.cons_append, List.nil_append]
  refine AA_end (by kernel_rfl) rfl ?_
  intro bs hbs
  obtain ⟨b13, rfl⟩ := len_1 hbs
  clear hbs
  show AJ _ _ _ _ _ _ _ ((17, .pointer (some ⟨b13, 0, none⟩)) :: _) (cellsR b13 _ _ :: _) _
  refine AJ_store (cs' := #[_, _]) (μ' := [_, _, _, _, _, _, _, _, _, _, _, _, _]) 10 0 rfl (by kernel_rfl) rfl rfl rfl rfl tyi_29 rfl (Nat.le_of_ble_eq_true rfl) rfl rfl rfl (fun _ => AllIn.sub (And.intro (by repeat first | exact .head _ | apply List.Mem.tail) (And.intro (by repeat first | exact .head _ | apply List.Mem.tail) (And.intro (by repeat first | exact .head _ | apply List.Mem.tail) (And.intro (by repeat first | exact .head _ | apply List.Mem.tail) (And.intro (by repeat first | exact .head _ | apply List.Mem.tail) (And.intro (by repeat first | exact .head _ | apply List.Mem.tail) (And.intro (by repeat first | exact .head _ | apply List.Mem.tail) (And.intro (by repeat first | exact .head _ | apply List.Mem.tail) (And.intro (by repeat first | exact .head _ | apply List.Mem.tail) (And.intro (by repeat first | exact .head _ | apply List.Mem.tail) (And.intro (by repeat first | exact .head _ | apply List.Mem.tail) (And.intro (by repeat first | exact .head _ | apply List.Mem.tail) (trivial)))))))))))))) ?_
  refine AJ_done (by kernel_rfl) ?_
  refine QJ_then ?_
  refine CJ_seq ?_
  refine CJ_regDA mix (by kernel_rfl) (fun _ _ _ _ _ h => h) _ _ (fun _ h => h) (fun _ h => h) [⟨15, 18, 29, #[.bool false, .slice none 0 0]⟩] 16 rfl (And.intro ⟨_, _, _, _, rfl, zer_29, rfl⟩ (trivial)) rfl rfl ?_
  first | refine AA_y 0 rfl (by kernel_rfl) rfl rfl rfl (YJ_loadN (vs := [_, _]) rfl tyi_29 (by repeat first | exact .head _ | apply List.Mem.tail) rfl rfl) ?_ | refine AA_y 0 rfl (by kernel_rfl) rfl rfl rfl (YJ_loadFactN (vs := [_, _]) rfl tyi_29 (by repeat first | exact .head _ | apply List.Mem.tail) rfl rfl) ?_
  first | refine AA_y 1 rfl (by kernel_rfl) rfl rfl rfl (YJ_loadN (vs := [_, _]) rfl tyi_53 (by repeat first | exact .head _ | apply List.Mem.tail) rfl rfl) ?_ | refine AA_y 1 rfl (by kernel_rfl) rfl rfl rfl (YJ_loadFactN (vs := [_, _]) rfl tyi_53 (by repeat first | exact .head _ | apply List.Mem.tail) rfl rfl) ?_
  first | refine AA_y 2 rfl (by kernel_rfl) rfl rfl rfl (YJ_loadN (vs := [_, _]) rfl tyi_53 (by repeat first | exact .head _ | apply List.Mem.tail) rfl rfl) ?_ | refine AA_y 2 rfl (by kernel_rfl) rfl rfl rfl (YJ_loadFactN (vs := [_, _]) rfl tyi_53 (by repeat first | exact .head _ | apply List.Mem.tail) rfl rfl) ?_
  first | refine AA_y 6 rfl (by kernel_rfl) rfl rfl rfl (YJ_loadN (vs := [_, _]) rfl tyi_29 (by repeat first | exact .head _ | apply List.Mem.tail) rfl rfl) ?_ | refine AA_y 6 rfl (by kernel_rfl) rfl rfl rfl (YJ_loadFactN (vs := [_, _]) rfl tyi_29 (by repeat first | exact .head _ | apply List.Mem.tail) rfl rfl) ?_
  first | refine AA_y 7 rfl (by kernel_rfl) rfl rfl rfl (YJ_loadN (vs := [_, _]) rfl tyi_29 (by repeat first | exact .head _ | apply List.Mem.tail) rfl rfl) ?_ | refine AA_y 7 rfl (by kernel_rfl) rfl rfl rfl (YJ_loadFactN (vs := [_, _]) rfl tyi_29 (by repeat first | exact .head _ | apply List.Mem.tail) rfl rfl) ?_
  first | refine AA_y 9 rfl (by kernel_rfl) rfl rfl rfl (YJ_loadN (vs := [_, _]) rfl tyi_29 (by repeat first | exact .head _ | apply List.Mem.tail) rfl rfl) ?_ | refine AA_y 9 rfl (by kernel_rfl) rfl rfl rfl (YJ_loadFactN (vs := [_, _]) rfl tyi_29 (by repeat first | exact .head _ | apply List.Mem.tail) rfl rfl) ?_
  first | refine AA_y 10 rfl (by kernel_rfl) rfl rfl rfl (YJ_loadN (vs := [_, _]) rfl tyi_29 (by repeat first | exact .head _ | apply List.Mem.tail) rfl rfl) ?_ | refine AA_y 10 rfl (by kernel_rfl) rfl rfl rfl (YJ_loadFactN (vs := [_, _]) rfl tyi_29 (by repeat first | exact .head _ | apply List.Mem.tail) rfl rfl) ?_
  refine AA_callX 3 rfl (by kernel_rfl) rfl rfl rfl rfl rfl rfl rfl (square_c ha hd) (AllIn.sub (by first | exact trivial | exact And.intro (by repeat first | exact .head _ | apply List.Mem.tail) trivial | exact And.intro (by repeat first | exact .head _ | apply List.Mem.tail) (And.intro (by repeat first | exact .head _ | apply List.Mem.tail) trivial))) ?_
  rintro ⟨Z16, k16⟩ hcap16
  dsimp only at hcap16
  dsimp only [List.cons_append, List.nil_append]
  refine AA_callX 4 rfl (by kernel_rfl) rfl rfl rfl rfl rfl rfl rfl (nmul_c (a := (2 * (((e1 - a1) * (c2 - a2)) - ((e2 - a2) * (c1 - a1))))) (b := (((a1 - d1) * (a1 - d1)) + ((a2 - d2) * (a2 - d2)))) (Nat.le_trans (dl_mul (dl_r128 r128_two) (dl_sub (dl_mul (dl_r128 (Tm.d he.1 ha.1).i.r) (dl_r128 (Tm.d hc.2 ha.2).i.r)) (dl_mul (dl_r128 (Tm.d he.2 ha.2).i.r) (dl_r128 (Tm.d hc.1 ha.1).i.r)))) (by decide)) (Nat.le_trans (dl_add (dl_mul (dl_r128 (Tm.d ha.1 hd.1).i.r) (dl_r128 (Tm.d ha.1 hd.1).i.r)) (dl_mul (dl_r128 (Tm.d ha.2 hd.2).i.r) (dl_r128 (Tm.d ha.2 hd.2).i.r))) (by decide)) hcap9 hcap16) (AllIn.sub (And.intro (by repeat first | exact .head _ | apply List.Mem.tail) (And.intro (by repeat first | exact .head _ | apply List.Mem.tail) trivial))) ?_
  rintro ⟨Z17, k17⟩ hcap17
  dsimp only at hcap17
  dsimp only [List.cons_append, List.nil_append]
  refine AA_callX 5 rfl (by kernel_rfl) rfl rfl rfl rfl rfl rfl rfl (nof_c i64_two) (AllIn.sub (by first | exact trivial | exact And.intro (by repeat first | exact .head _ | apply List.Mem.tail) trivial | exact And.intro (by repeat first | exact .head _ | apply List.Mem.tail) (And.intro (by repeat first | exact .head _ | apply List.Mem.tail) trivial))) ?_
  rintro ⟨Z18, k18⟩ hcap18
  dsimp only at hcap18
  dsimp only [List.cons_append, List.nil_append]
  refine AA_callX 8 rfl (by kernel_rfl) rfl rfl rfl rfl rfl rfl rfl (nmul_c (a := (d1 - a1)) (b := (((((a1 - e1) * (a1 - e1)) + ((a2 - e2) * (a2 - e2))) * (c2 - a2)) - ((e2 - a2) * (((a1 - c1) * (a1 - c1)) + ((a2 - c2) * (a2 - c2)))))) (Nat.le_trans (dl_r128 (Tm.d hd.1 ha.1).i.r) (by decide)) (Nat.le_trans (dl_sub (dl_mul (dl_add (dl_mul (dl_r128 (Tm.d ha.1 he.1).i.r) (dl_r128 (Tm.d ha.1 he.1).i.r)) (dl_mul (dl_r128 (Tm.d ha.2 he.2).i.r) (dl_r128 (Tm.d ha.2 he.2).i.r))) (dl_r128 (Tm.d hc.2 ha.2).i.r)) (dl_mul (dl_r128 (Tm.d he.2 ha.2).i.r) (dl_add (dl_mul (dl_r128 (Tm.d ha.1 hc.1).i.r) (dl_r128 (Tm.d ha.1 hc.1).i.r)) (dl_mul (dl_r128 (Tm.d ha.2 hc.2).i.r) (dl_r128 (Tm.d ha.2 hc.2).i.r))))) (by decide)) hcap5 hcap12) (AllIn.sub (And.intro (by repeat first | exact .head _ | apply List.Mem.tail) (And.intro (by repeat first | exact .head _ | apply List.Mem.tail) trivial))) ?_
  rintro ⟨Z19, k19⟩ hcap19
  dsimp only at hcap19
  dsimp only [List.cons_append, List.nil_append]
  refine AA_callX 11 rfl (by kernel_rfl) rfl rfl rfl rfl rfl rfl rfl (nmul_c (a := (d2 - a2)) (b := (((e1 - a1) * (((a1 - c1) * (a1 - c1)) + ((a2 - c2) * (a2 - c2)))) - ((((a1 - e1) * (a1 - e1)) + ((a2 - e2) * (a2 - e2))) * (c1 - a1)))) (Nat.le_trans (dl_r128 (Tm.d hd.2 ha.2).i.r) (by decide)) (Nat.le_trans (dl_sub (dl_mul (dl_r128 (Tm.d he.1 ha.1).i.r) (dl_add (dl_mul (dl_r128 (Tm.d ha.1 hc.1).i.r) (dl_r128 (Tm.d ha.1 hc.1).i.r)) (dl_mul (dl_r128 (Tm.d ha.2 hc.2).i.r) (dl_r128 (Tm.d ha.2 hc.2).i.r)))) (dl_mul (dl_add (dl_mul (dl_r128 (Tm.d ha.1 he.1).i.r) (dl_r128 (Tm.d ha.1 he.1).i.r)) (dl_mul (dl_r128 (Tm.d ha.2 he.2).i.r) (dl_r128 (Tm.d ha.2 he.2).i.r))) (dl_r128 (Tm.d hc.1 ha.1).i.r))) (by decide)) hcap6 hcap15) (AllIn.sub (And.intro (by repeat first | exact .head _ | apply List.Mem.tail) (And.intro (by repeat first | exact .head _ | apply List.Mem.tail) trivial))) ?_
  rintro ⟨Z20, k20⟩ hcap20
  dsimp only at hcap20
  dsimp only [List.cons_append, List.nil_append]
  refine AA_callX 12 rfl (by kernel_rfl) rfl rfl rfl rfl rfl rfl rfl (nadd_c (a := ((d1 - a1) * (((((a1 - e1) * (a1 - e1)) + ((a2 - e2) * (a2 - e2))) * (c2 - a2)) - ((e2 - a2) * (((a1 - c1) * (a1 - c1)) + ((a2 - c2) * (a2 - c2))))))) (b := ((d2 - a2) * (((e1 - a1) * (((a1 - c1) * (a1 - c1)) + ((a2 - c2) * (a2 - c2)))) - ((((a1 - e1) * (a1 - e1)) + ((a2 - e2) * (a2 - e2))) * (c1 - a1))))) (Nat.le_trans (dl_mul (dl_r128 (Tm.d hd.1 ha.1).i.r) (dl_sub (dl_mul (dl_add (dl_mul (dl_r128 (Tm.d ha.1 he.1).i.r) (dl_r128 (Tm.d ha.1 he.1).i.r)) (dl_mul (dl_r128 (Tm.d ha.2 he.2).i.r) (dl_r128 (Tm.d ha.2 he.2).i.r))) (dl_r128 (Tm.d hc.2 ha.2).i.r)) (dl_mul (dl_r128 (Tm.d he.2 ha.2).i.r) (dl_add (dl_mul (dl_r128 (Tm.d ha.1 hc.1).i.r) (dl_r128 (Tm.d ha.1 hc.1).i.r)) (dl_mul (dl_r128 (Tm.d ha.2 hc.2).i.r) (dl_r128 (Tm.d ha.2 hc.2).i.r)))))) (by decide)) (Nat.le_trans (dl_mul (dl_r128 (Tm.d hd.2 ha.2).i.r) (dl_sub (dl_mul (dl_r128 (Tm.d he.1 ha.1).i.r) (dl_add (dl_mul (dl_r128 (Tm.d ha.1 hc.1).i.r) (dl_r128 (Tm.d ha.1 hc.1).i.r)) (dl_mul (dl_r128 (Tm.d ha.2 hc.2).i.r) (dl_r128 (Tm.d ha.2 hc.2).i.r)))) (dl_mul (dl_add (dl_mul (dl_r128 (Tm.d ha.1 he.1).i.r) (dl_r128 (Tm.d ha.1 he.1).i.r)) (dl_mul (dl_r128 (Tm.d ha.2 he.2).i.r) (dl_r128 (Tm.d ha.2 he.2).i.r))) (dl_r128 (Tm.d hc.1 ha.1).i.r)))) (by decide)) hcap19 hcap20) (AllIn.sub (And.intro (by repeat first | exact .head _ | apply List.Mem.tail) (And.intro (by repeat first | exact .head _ | apply List.Mem.tail) trivial))) ?_
  rintro ⟨Z21, k21⟩ hcap21
  dsimp only at hcap21
  dsimp only [List.cons_append, List.nil_append]
  refine AA_callX 13 rfl (by kernel_rfl) rfl rfl rfl rfl rfl rfl rfl (nmul_c (a := 2) (b := (((d1 - a1) * (((((a1 - e1) * (a1 - e1)) + ((a2 - e2) * (a2 - e2))) * (c2 - a2)) - ((e2 - a2) * (((a1 - c1) * (a1 - c1)) + ((a2 - c2) * (a2 - c2)))))) + ((d2 - a2) * (((e1 - a1) * (((a1 - c1) * (a1 - c1)) + ((a2 - c2) * (a2 - c2)))) - ((((a1 - e1) * (a1 - e1)) + ((a2 - e2) * (a2 - e2))) * (c1 - a1)))))) (Nat.le_trans (dl_r128 r128_two) (by decide)) (Nat.le_trans (dl_add (dl_mul (dl_r128 (Tm.d hd.1 ha.1).i.r) (dl_sub (dl_mul (dl_add (dl_mul (dl_r128 (Tm.d ha.1 he.1).i.r) (dl_r128 (Tm.d ha.1 he.1).i.r)) (dl_mul (dl_r128 (Tm.d ha.2 he.2).i.r) (dl_r128 (Tm.d ha.2 he.2).i.r))) (dl_r128 (Tm.d hc.2 ha.2).i.r)) (dl_mul (dl_r128 (Tm.d he.2 ha.2).i.r) (dl_add (dl_mul (dl_r128 (Tm.d ha.1 hc.1).i.r) (dl_r128 (Tm.d ha.1 hc.1).i.r)) (dl_mul (dl_r128 (Tm.d ha.2 hc.2).i.r) (dl_r128 (Tm.d ha.2 hc.2).i.r)))))) (dl_mul (dl_r128 (Tm.d hd.2 ha.2).i.r) (dl_sub (dl_mul (dl_r128 (Tm.d he.1 ha.1).i.r) (dl_add (dl_mul (dl_r128 (Tm.d ha.1 hc.1).i.r) (dl_r128 (Tm.d ha.1 hc.1).i.r)) (dl_mul (dl_r128 (Tm.d ha.2 hc.2).i.r) (dl_r128 (Tm.d ha.2 hc.2).i.r)))) (dl_mul (dl_add (dl_mul (dl_r128 (Tm.d ha.1 he.1).i.r) (dl_r128 (Tm.d ha.1 he.1).i.r)) (dl_mul (dl_r128 (Tm.d ha.2 he.2).i.r) (dl_r128 (Tm.d ha.2 he.2).i.r))) (dl_r128 (Tm.d hc.1 ha.1).i.r))))) (by decide)) hcap18 hcap21) (AllIn.sub (And.intro (by repeat first | exact .head _ | apply List.Mem.tail) (And.intro (by repeat first | exact .head _ | apply List.Mem.tail) trivial))) ?_
  rintro ⟨Z22, k22⟩ hcap22
  dsimp only at hcap22
  dsimp only [List.cons_append, List.nil_append]
  refine AA_callX 14 rfl (by kernel_rfl) rfl rfl rfl rfl rfl rfl rfl (nsub_c (a := ((2 * (((e1 - a1) * (c2 - a2)) - ((e2 - a2) * (c1 - a1)))) * (((a1 - d1) * (a1 - d1)) + ((a2 - d2) * (a2 - d2))))) (b := (2 * (((d1 - a1) * (((((a1 - e1) * (a1 - e1)) + ((a2 - e2) * (a2 - e2))) * (c2 - a2)) - ((e2 - a2) * (((a1 - c1) * (a1 - c1)) + ((a2 - c2) * (a2 - c2)))))) + ((d2 - a2) * (((e1 - a1) * (((a1 - c1) * (a1 - c1)) + ((a2 - c2) * (a2 - c2)))) - ((((a1 - e1) * (a1 - e1)) + ((a2 - e2) * (a2 - e2))) * (c1 - a1))))))) (Nat.le_trans (dl_mul (dl_mul (dl_r128 r128_two) (dl_sub (dl_mul (dl_r128 (Tm.d he.1 ha.1).i.r) (dl_r128 (Tm.d hc.2 ha.2).i.r)) (dl_mul (dl_r128 (Tm.d he.2 ha.2).i.r) (dl_r128 (Tm.d hc.1 ha.1).i.r)))) (dl_add (dl_mul (dl_r128 (Tm.d ha.1 hd.1).i.r) (dl_r128 (Tm.d ha.1 hd.1).i.r)) (dl_mul (dl_r128 (Tm.d ha.2 hd.2).i.r) (dl_r128 (Tm.d ha.2 hd.2).i.r)))) (by decide)) (Nat.le_trans (dl_mul (dl_r128 r128_two) (dl_add (dl_mul (dl_r128 (Tm.d hd.1 ha.1).i.r) (dl_sub (dl_mul (dl_add (dl_mul (dl_r128 (Tm.d ha.1 he.1).i.r) (dl_r128 (Tm.d ha.1 he.1).i.r)) (dl_mul (dl_r128 (Tm.d ha.2 he.2).i.r) (dl_r128 (Tm.d ha.2 he.2).i.r))) (dl_r128 (Tm.d hc.2 ha.2).i.r)) (dl_mul (dl_r128 (Tm.d he.2 ha.2).i.r) (dl_add (dl_mul (dl_r128 (Tm.d ha.1 hc.1).i.r) (dl_r128 (Tm.d ha.1 hc.1).i.r)) (dl_mul (dl_r128 (Tm.d ha.2 hc.2).i.r) (dl_r128 (Tm.d ha.2 hc.2).i.r)))))) (dl_mul (dl_r128 (Tm.d hd.2 ha.2).i.r) (dl_sub (dl_mul (dl_r128 (Tm.d he.1 ha.1).i.r) (dl_add (dl_mul (dl_r128 (Tm.d ha.1 hc.1).i.r) (dl_r128 (Tm.d ha.1 hc.1).i.r)) (dl_mul (dl_r128 (Tm.d ha.2 hc.2).i.r) (dl_r128 (Tm.d ha.2 hc.2).i.r)))) (dl_mul (dl_add (dl_mul (dl_r128 (Tm.d ha.1 he.1).i.r) (dl_r128 (Tm.d ha.1 he.1).i.r)) (dl_mul (dl_r128 (Tm.d ha.2 he.2).i.r) (dl_r128 (Tm.d ha.2 he.2).i.r))) (dl_r128 (Tm.d hc.1 ha.1).i.r)))))) (by decide)) hcap17 hcap22) (AllIn.sub (And.intro (by repeat first | exact .head _ | apply List.Mem.tail) (And.intro (by repeat first | exact .head _ | apply List.Mem.tail) trivial))) ?_
  rintro ⟨Z23, k23⟩ hcap23
  dsimp only at hcap23
  dsimp only [List.cons_append, List.nil_append]
  refine AA_end (by kernel_rfl) rfl ?_
  intro bs hbs
  obtain ⟨b14, rfl⟩ := len_1 hbs
  clear hbs
  show AJ _ _ _ _ _ _ _ ((18, .pointer (some ⟨b14, 0, none⟩)) :: _) (cellsR b14 _ _ :: _) _
  refine AJ_store (cs' := #[_, _]) (μ' := [_, _, _, _, _, _, _, _, _, _, _, _, _, _]) 16 0 rfl (by kernel_rfl) rfl rfl rfl rfl tyi_29 rfl (Nat.le_of_ble_eq_true rfl) rfl rfl rfl (fun _ => AllIn.sub (And.intro (by repeat first | exact .head _ | apply List.Mem.tail) (And.intro (by repeat first | exact .head _ | apply List.Mem.tail) (And.intro (by repeat first | exact .head _ | apply List.Mem.tail) (And.intro (by repeat first | exact .head _ | apply List.Mem.tail) (And.intro (by repeat first | exact .head _ | apply List.Mem.tail) (And.intro (by repeat first | exact .head _ | apply List.Mem.tail) (And.intro (by repeat first | exact .head _ | apply List.Mem.tail) (And.intro (by repeat first | exact .head _ | apply List.Mem.tail) (And.intro (by repeat first | exact .head _ | apply List.Mem.tail) (And.intro (by repeat first | exact .head _ | apply List.Mem.tail) (And.intro (by repeat first | exact .head _ | apply List.Mem.tail) (And.intro (by repeat first | exact .head _ | apply List.Mem.tail) (And.intro (by repeat first | exact .head _ | apply List.Mem.tail) (trivial))))))))))))))) ?_
  refine AJ_done (by kernel_rfl) ?_
  refine QJ_then ?_
  refine CJ_seq ?_
  refine CJ_regD mix (by kernel_rfl) (fun _ _ _ _ _ h => h) _ _ (fun _ h => h) (fun _ h => h) ?_
  first | refine AJ_y 0 rfl (by kernel_rfl) (by kernel_rfl) rfl rfl (YJ_loadN (vs := [_, _]) rfl tyi_29 (by repeat first | exact .head _ | apply List.Mem.tail) rfl rfl) ?_ | refine AJ_y 0 rfl (by kernel_rfl) (by kernel_rfl) rfl rfl (YJ_loadFactN (vs := [_, _]) rfl tyi_29 (by repeat first | exact .head _ | apply List.Mem.tail) rfl rfl) ?_
  first | refine AJ_y 2 rfl (by kernel_rfl) (by kernel_rfl) rfl rfl (YJ_loadN (vs := [_, _]) rfl tyi_29 (by repeat first | exact .head _ | apply List.Mem.tail) rfl rfl) ?_ | refine AJ_y 2 rfl (by kernel_rfl) (by kernel_rfl) rfl rfl (YJ_loadFactN (vs := [_, _]) rfl tyi_29 (by repeat first | exact .head _ | apply List.Mem.tail) rfl rfl) ?_
  refine AJ_call0 1 rfl (by kernel_rfl) rfl rfl rfl rfl rfl (nsign_c (z := (((2 * (((e1 - a1) * (c2 - a2)) - ((e2 - a2) * (c1 - a1)))) * (((a1 - d1) * (a1 - d1)) + ((a2 - d2) * (a2 - d2)))) - (2 * (((d1 - a1) * (((((a1 - e1) * (a1 - e1)) + ((a2 - e2) * (a2 - e2))) * (c2 - a2)) - ((e2 - a2) * (((a1 - c1) * (a1 - c1)) + ((a2 - c2) * (a2 - c2)))))) + ((d2 - a2) * (((e1 - a1) * (((a1 - c1) * (a1 - c1)) + ((a2 - c2) * (a2 - c2)))) - ((((a1 - e1) * (a1 - e1)) + ((a2 - e2) * (a2 - e2))) * (c1 - a1)))))))) (Nat.le_trans (dl_sub (dl_mul (dl_mul (dl_r128 r128_two) (dl_sub (dl_mul (dl_r128 (Tm.d he.1 ha.1).i.r) (dl_r128 (Tm.d hc.2 ha.2).i.r)) (dl_mul (dl_r128 (Tm.d he.2 ha.2).i.r) (dl_r128 (Tm.d hc.1 ha.1).i.r)))) (dl_add (dl_mul (dl_r128 (Tm.d ha.1 hd.1).i.r) (dl_r128 (Tm.d ha.1 hd.1).i.r)) (dl_mul (dl_r128 (Tm.d ha.2 hd.2).i.r) (dl_r128 (Tm.d ha.2 hd.2).i.r)))) (dl_mul (dl_r128 r128_two) (dl_add (dl_mul (dl_r128 (Tm.d hd.1 ha.1).i.r) (dl_sub (dl_mul (dl_add (dl_mul (dl_r128 (Tm.d ha.1 he.1).i.r) (dl_r128 (Tm.d ha.1 he.1).i.r)) (dl_mul (dl_r128 (Tm.d ha.2 he.2).i.r) (dl_r128 (Tm.d ha.2 he.2).i.r))) (dl_r128 (Tm.d hc.2 ha.2).i.r)) (dl_mul (dl_r128 (Tm.d he.2 ha.2).i.r) (dl_add (dl_mul (dl_r128 (Tm.d ha.1 hc.1).i.r) (dl_r128 (Tm.d ha.1 hc.1).i.r)) (dl_mul (dl_r128 (Tm.d ha.2 hc.2).i.r) (dl_r128 (Tm.d ha.2 hc.2).i.r)))))) (dl_mul (dl_r128 (Tm.d hd.2 ha.2).i.r) (dl_sub (dl_mul (dl_r128 (Tm.d he.1 ha.1).i.r) (dl_add (dl_mul (dl_r128 (Tm.d ha.1 hc.1).i.r) (dl_r128 (Tm.d ha.1 hc.1).i.r)) (dl_mul (dl_r128 (Tm.d ha.2 hc.2).i.r) (dl_r128 (Tm.d ha.2 hc.2).i.r)))) (dl_mul (dl_add (dl_mul (dl_r128 (Tm.d ha.1 he.1).i.r) (dl_r128 (Tm.d ha.1 he.1).i.r)) (dl_mul (dl_r128 (Tm.d ha.2 he.2).i.r) (dl_r128 (Tm.d ha.2 he.2).i.r))) (dl_r128 (Tm.d hc.1 ha.1).i.r))))))) (by decide)) hcap23) (AllIn.sub (And.intro (by repeat first | exact .head _ | apply List.Mem.tail) trivial)) ?_
  refine AJ_val (v := .int .i64 (-sgn (Inc a1 a2 e1 e2 c1 c2 d1 d2))) (congrArg (Value.int .i64) ((congrArg sgn (power_eq ..)).trans (sgn_mtwo _))) ?_
  refine AJ_call0 3 rfl (by kernel_rfl) rfl rfl rfl rfl rfl (nsign_c (z := (2 * (((e1 - a1) * (c2 - a2)) - ((e2 - a2) * (c1 - a1))))) (Nat.le_trans (dl_mul (dl_r128 r128_two) (dl_sub (dl_mul (dl_r128 (Tm.d he.1 ha.1).i.r) (dl_r128 (Tm.d hc.2 ha.2).i.r)) (dl_mul (dl_r128 (Tm.d he.2 ha.2).i.r) (dl_r128 (Tm.d hc.1 ha.1).i.r)))) (by decide)) hcap9) (AllIn.sub (And.intro (by repeat first | exact .head _ | apply List.Mem.tail) trivial)) ?_
  refine AJ_val (v := .int .i64 (sgn (A2 a1 a2 e1 e2 c1 c2))) (congrArg (Value.int .i64) (sgn_two (A2 a1 a2 e1 e2 c1 c2))) ?_
  refine AJ_y 4 rfl (by kernel_rfl) (by kernel_rfl) rfl rfl (YJ_bin rfl rfl (iop_mul (sgn_neg_b _ _))) ?_
  refine AJ_y 5 rfl (by kernel_rfl) (by kernel_rfl) rfl rfl (YJ_assign rfl) ?_
  refine AJ_done (by kernel_rfl) ?_
  refine QJ_then ?_
  refine CJ_ret ?_
  refine QJ_fin (.inl rfl) (μ' := []) (μr := _) (φ' := []) (res_tmp rfl rfl) (List.Perm.refl _) (fun _ h => nomatch h) ?_
  exact ⟨rfl, rfl, rfl⟩

end Go.Proofs.Ytggbdfnoehienaa
