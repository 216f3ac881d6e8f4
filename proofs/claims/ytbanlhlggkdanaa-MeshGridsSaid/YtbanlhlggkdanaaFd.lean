/- What the law MeshGrids needs. Part 4: the texts of S4 S5 S6 S7 V2 V3 S8 K2 V1 V4 V5 V6 V7 S9 S10 V9 T2 V10 V8 S11 T3. -/
import Derived.Test.YtbanlhlggkdanaaFc
set_option linter.unusedSimpArgs false
set_option linter.unusedVariables false
namespace Go.Proofs.Ytbanlhlggkdanaa
open Go.RowKit
theorem ent_62 : Enter Try.prog 62 = true := by kernel_rfl
theorem umap_70 : Try.prog.underlying 70 = some (.map 3 3) := by kernel_rfl
theorem keyI : KeyT Try.prog 3 gI := keyInt (q := .i64) (by kernel_rfl)
abbrev MI := List (Int × Int × Nat)
def cntA (x : Int) : List Tr → Int
 | [] => 0
 | t :: l => cntv t x 3 + cntA x l
theorem cntA_b (x : Int) : ∀ l : List Tr, 0 ≤ cntA x l ∧ cntA x l ≤ 3 * l.length
 | [] => ⟨Int.le_refl _, Int.le_refl _⟩
 | t :: l => by
  have h1 := cntA_b x l
  have h2 := cntv_b t x 3
  unfold cntA
  rw [List.length_cons]
  omega
theorem cntA_app (x : Int) (t : Tr) : ∀ l : List Tr, cntA x (l ++ [t]) = cntA x l + cntv t x 3
 | [] => by show cntv t x 3 + 0 = 0 + cntv t x 3; omega
 | u :: l => by
  have := cntA_app x t l
  show cntv u x 3 + cntA x (l ++ [t]) = cntv u x 3 + cntA x l + cntv t x 3
  omega
theorem cntA_take {x : Int} {l : List Tr} {n : Nat} {t : Tr} (h : l[n]? = some t) : cntA x (l.take (n + 1)) = cntA x (l.take n) + cntv t x 3 := by
 rw [List.take_add_one, h]
 exact cntA_app x t _
structure CI (tris : List Tr) (c : Int → Int) (Lc : MI) (cc : Nat) (Lo : MI) : Prop where
 c0 : ∀ v, v ≠ -2 → (mget v Lc).getD 0 = c v
 kc : ∀ e, e ∈ Lc → e.1 ≠ -2 ∧ 0 < e.2.1
 bn : (Lc.map (·.2.2)).Nodup
 bc : ∀ e, e ∈ Lc → e.2.2 < cc
 kn : (Lc.map (·.1)).Nodup
 o : ∀ v n, mget v Lo = some n → 0 ≤ n ∧ ∃ (t : Tr) (k : Nat), tris[n.toNat]? = some t ∧ k < 3 ∧ t.v k = v
 oc : ∀ e, e ∈ Lc → ∃ n, mget e.1 Lo = some n
theorem CI.nil (tris : List Tr) {c : Int → Int} (h : ∀ v, c v = 0) : CI tris c [] 0 [] :=
 ⟨fun v _ => (h v).symm, fun _ h => (nomatch h), List.nodup_nil, fun _ h => (nomatch h), List.nodup_nil, (fun v n h => by rw [mget_nil] at h; cases h), fun _ h => (nomatch h)⟩
theorem CI.congr {tris : List Tr} {c c' : Int → Int} {Lc Lo : MI} {cc : Nat} (h : CI tris c Lc cc Lo) (he : ∀ v, v ≠ -2 → c v = c' v) : CI tris c' Lc cc Lo := ⟨fun v hv => (h.c0 v hv).trans (he v hv), h.2, h.3, h.4, h.5, h.6, h.7⟩
theorem CI.step {tris : List Tr} {c : Int → Int} {Lc Lo : MI} {cc co n k : Nat} {t : Tr} (h : CI tris c Lc cc Lo) (ht : tris[n]? = some t) (hk : k < 3) (hv : t.v k ≠ -2) (hc : ∀ v, 0 ≤ c v) :
  CI tris (fun x => c x + if t.v k = x then 1 else 0) (mput (t.v k) ((mget (t.v k) Lc).getD 0 + 1) Lc cc) (mclk (t.v k) Lc cc) (mput (t.v k) (n : Int) Lo co) := by
 have hb := mput_born (k := t.v k) (v := (mget (t.v k) Lc).getD 0 + 1) h.bc h.bn
 have hn := mput_keys (k := t.v k) (v := (mget (t.v k) Lc).getD 0 + 1) (c := cc) h.kn
 have hmem : ∀ e, e ∈ mput (t.v k) ((mget (t.v k) Lc).getD 0 + 1) Lc cc → (e.1 = t.v k ∧ e.2.1 = (mget (t.v k) Lc).getD 0 + 1) ∨ ∃ e', e' ∈ Lc ∧ e'.1 = e.1 ∧ e'.2.1 = e.2.1 := by
  intro e he
  have := mget_of_mem hn he
  rw [mget_mput] at this
  split at this
  ·rename_i q
   exact .inl ⟨q, (Option.some.inj this).symm⟩
  ·exact .inr (mget_mem this)
 refine ⟨fun v hv2 => ?_, fun e he => ?_, hb.1, hb.2, hn, fun v m hm => ?_, fun e he => ?_⟩
 ·rw [mget_mput]
  by_cases q : v = t.v k
  ·subst q
   rw [if_pos rfl, if_pos rfl, ← h.c0 _ hv]
   rfl
  ·rw [if_neg q, if_neg (fun e => q e.symm), h.c0 v hv2]
   omega
 ·rcases hmem e he with ⟨q1, q2⟩ | ⟨e', he', q1, q2⟩
  ·have := hc (t.v k)
   rw [← h.c0 _ hv] at this
   exact ⟨q1 ▸ hv, by rw [q2]; omega⟩
  ·rw [← q1, ← q2]; exact h.kc e' he'
 ·rw [mget_mput] at hm
  split at hm
  ·rename_i q
   cases hm
   exact ⟨Int.natCast_nonneg n, t, k, by simpa using ht, hk, q.symm⟩
  ·exact h.o v m hm
 ·rw [mget_mput]
  split
  ·exact ⟨_, rfl⟩
  ·rename_i q
   rcases hmem e he with ⟨q1, _⟩ | ⟨e', he', q1, _⟩
   ·exact absurd q1 q
   ·rw [← q1]; exact h.oc e' he'
structure StOk (tris : List Tr) (ats : List Int) : Prop where
 cl : ∀ (v : Int) (n k : Nat) (t : Tr), v ≠ -2 → tris[n]? = some t → k < 3 → t.v k = v → ∃ S : Int → Prop, S (n : Int) ∧ ∀ x, S x → 0 ≤ x ∧ ∃ (t : Tr) (p : Nat), tris[x.toNat]? = some t ∧ plc t v = p ∧ p < 3 ∧ S (t.n ((p + 1) % 3))
 rd : ∀ (v : Int) (n k : Nat) (t : Tr) (m : Nat), v ≠ -2 → tris[n]? = some t → k < 3 → t.v k = v → RndOk tris v n m → (m : Int) = cntA v tris
 at_ : ∀ (v : Nat) (a : Int), ats[v]? = some a → (a < 0 ↔ cntA v tris = 0) ∧ a < tris.length ∧ (0 ≤ a → ∃ t, tris[a.toNat]? = some t ∧ 0 ≤ plc t v)
 gh : 0 < cntA (-1) tris
def atFs (B : Nat) (h : Mh) (pts : List (Int × Int)) (tris : List Tr) (ats : List Int) : List Res :=
 [sliceR 4 (some ⟨B, 0, none⟩) 1 [.slice h.P pts.length h.cp, .slice h.T tris.length h.ct, .slice h.F h.nf h.cf, .slice h.A h.na h.ca], sliceR 2 h.P pts.length (ptCells pts), sliceR 9 h.T tris.length (trCells tris), sliceR 1 h.A ats.length (Iv ats)]
theorem at_mesh {B : Nat} {h : Mh} {pts : List (Int × Int)} {tris : List Tr} {ats : List Int} {φ : List Res} (hs : ∀ r, r ∈ atFs B h pts tris ats → r ∈ φ) : ∀ r, r ∈ meshFs B h pts tris → r ∈ φ := fun r hr => hs r (by
 simp only [meshFs, atFs, List.mem_cons, List.not_mem_nil, or_false] at *
 rcases hr with h | h | h
 ·exact .inl h
 ·exact .inr (.inl h)
 ·exact .inr (.inr (.inl h)))
theorem left_ltG {κ ν : Type} {L : List (κ × ν × Nat)} {seen : List Nat} {e : κ × ν × Nat} (h : e ∈ leftL L seen) : (leftL L (seen ++ [e.2.2])).length < (leftL L seen).length := by
 have e1 : leftL L (seen ++ [e.2.2]) = (leftL L seen).filter (fun x => !(x.2.2 == e.2.2)) := by
  unfold leftL
  rw [List.filter_filter]
  congr 1
  funext x
  simp only [List.contains_append, List.contains_cons, List.contains_nil, Bool.or_false, Bool.not_or]
  exact Bool.and_comm _ _
 rw [e1]
 exact List.length_filter_lt_length_iff_exists.2 ⟨e, h, by simp⟩
theorem left_memG {κ ν : Type} {L : List (κ × ν × Nat)} {seen : List Nat} {e : κ × ν × Nat} (h : e ∈ leftL L seen) : e ∈ L ∧ ¬ e.2.2 ∈ seen := by
 unfold leftL at h
 rw [List.mem_filter] at h
 exact ⟨h.1, by simpa using h.2⟩
theorem getD_map {o : Option Int} : (o.map gI).getD (.int .i64 0) = .int .i64 (o.getD 0) := by cases o <;> rfl
set_option maxRecDepth 100000 in
set_option maxHeartbeats 16000000 in
theorem stars_c {B : Nat} {h : Mh} {pts : List (Int × Int)} {tris : List Tr} {ats : List Int} (hna : h.na = ats.length) (hlen : tris.length ≤ 1000000) (hal : ats.length ≤ 1000000) (hSt : StOk tris ats) : Tri Try.prog 62 [.pointer (some ⟨B, 0, none⟩)] [] (atFs B h pts tris ats) (Ret0 (.bool true)) := by
 refine Tri_of (N := 102) Try.func62 rfl ent_62 rfl rfl ?_
 intro w0 S0 T0
 show CJ _ _ _ [(0, _)] _ _
 refine CJ_seq ?_
 refine CJ_reg ?_
 refine LJ_y rfl rfl (YJ_assign rfl) ?_
 refine LJ_nil ?_
 refine QJ_then ?_
 refine CJ_seq ?_
 refine CJ_reg ?_
 refine LJ_makeMap rfl rfl ?_
 intro cm
 refine LJ_makeMap rfl rfl ?_
 intro om
 refine LJ_y rfl rfl (YJ_assign rfl) ?_
 refine LJ_y rfl rfl (YJ_assign rfl) ?_
 refine LJ_nil ?_
 refine QJ_then ?_
 refine CJ_seq ?_
 refine CJ_seq ?_
 refine CJ_reg ?_
 refine LJ_y rfl rfl (YJ_move rfl) ?_
 refine LJ_y rfl rfl (YJ_nilCheck rfl) ?_
 refine LJ_y rfl rfl (YJ_fieldOwn rfl fld_57_1 rfl) ?_
 refine LJ_y rfl rfl (YJ_loadFactP (A := some ⟨B, 0, none⟩) (j := 1) rfl rfl tyi_54 m0 rfl) ?_
 refine LJ_y rfl rfl (YJ_len rfl ulen_54 rfl) ?_
 refine LJ_y rfl rfl (YJ_move rfl) ?_
 refine LJ_nil ?_
 refine QJ_then ?_
 refine CJ_block ?_
 refine CJ_loopF (F := fun (i : Nat × MI × Nat × MI × Nat) => ⟨[(0, .pointer (some ⟨B, 0, none⟩)), (3, .map (some cm)), (4, .map (some om)), (18, .slice h.T tris.length h.ct), (19, .int .i64 tris.length), (20, .int .i64 (i.1 : Nat))], [mapR cm gI gI i.2.1 i.2.2.1, mapR om gI gI i.2.2.2.1 i.2.2.2.2], []⟩) (I := fun (i : Nat × MI × Nat × MI × Nat) => i.1 ≤ tris.length ∧ CI tris (fun x => cntA x (tris.take i.1)) i.2.1 i.2.2.1 i.2.2.2.1) (m := fun (i : Nat × MI × Nat × MI × Nat) => tris.length - i.1) (0, [], 0, [], 0) (μr := []) ⟨Nat.zero_le _, CI.nil _ (fun _ => rfl)⟩ (And.intro rfl (And.intro rfl (And.intro rfl (And.intro rfl (And.intro rfl (And.intro rfl (trivial))))))) (permI [1] rfl) (fun _ h => nomatch h) ?_
 rintro ⟨n, Lc, cc, Lo, co⟩ ⟨hn, hCI⟩
 try dsimp only at hn
 try dsimp only at hCI
 show CJ _ _ _ [(0, .pointer (some ⟨B, 0, none⟩)), (3, .map (some cm)), (4, .map (some om)), (18, .slice h.T tris.length h.ct), (19, .int .i64 tris.length), (20, .int .i64 (n : Nat))] (mapR cm gI gI Lc cc :: mapR om gI gI Lo co :: _) _
 refine CJ_seq ?_
 refine CJ_reg ?_
 refine LJ_y rfl rfl (YJ_bin rfl rfl rfl) ?_
 refine LJ_nil ?_
 refine QJ_then ?_
 refine CJ_seq ?_
 refine CJ_cond rfl (fun h21 => ?_) (fun h21 => ?_)
 ·simp only [decide_eq_true_eq] at h21
  obtain ⟨t, ht⟩ := get_at h21
  refine CJ_skip ?_
  refine QJ_then ?_
  refine CJ_seq ?_
  refine CJ_block ?_
  refine CJ_seq ?_
  refine CJ_reg ?_
  refine LJ_y rfl rfl (YJ_move rfl) ?_
  refine LJ_y rfl rfl (YJ_ixFact rfl rfl elt_54 m2 (by decide) (by omega) (by omega) (by omega)) ?_
  refine LJ_y rfl rfl (YJ_loadFactN (vs := [.int .i64 t.v0, .int .i64 t.v1, .int .i64 t.v2, .int .i64 t.n0, .int .i64 t.n1, .int .i64 t.n2, .bool t.f0, .bool t.f1, .bool t.f2]) (xs := trCells tris) rfl tyi_37 m2 (trCells_row ht) rfl) ?_
  refine LJ_alloc (cs := #[_, _, _, _, _, _, _, _, _]) rfl rfl zer_37 rfl ?_
  intro b3
  refine LJ_y rfl rfl (YJ_assign rfl) ?_
  refine LJ_store (cs' := #[_, _, _, _, _, _, _, _, _]) (μ' := [_, _, _]) 0 rfl rfl rfl rfl tyi_37 rfl (Nat.le_of_ble_eq_true rfl) rfl (wr_all rfl) rfl ?_
  refine LJ_nil ?_
  refine QJ_then ?_
  refine CJ_seq ?_
  refine CJ_reg ?_
  refine LJ_y rfl rfl (YJ_fieldOwn rfl fld_37_0 rfl) ?_
  refine LJ_y rfl rfl (YJ_loadN (vs := [_, _, _]) rfl tyi_34 m0 rfl rfl) ?_
  refine LJ_y rfl rfl (YJ_move rfl) ?_
  refine LJ_nil ?_
  refine QJ_then ?_
  refine CJ_block ?_
  refine CJ_loopF (F := fun (i : Nat × MI × Nat × MI × Nat) => ⟨[(0, .pointer (some ⟨B, 0, none⟩)), (3, .map (some cm)), (4, .map (some om)), (18, .slice h.T tris.length h.ct), (19, .int .i64 tris.length), (20, .int .i64 (n : Nat)), (5, .int .i64 (n : Nat)), (26, .agg #[.int .i64 t.v0, .int .i64 t.v1, .int .i64 t.v2]), (27, .int .i64 (i.1 : Nat))], [mapR cm gI gI i.2.1 i.2.2.1, mapR om gI gI i.2.2.2.1 i.2.2.2.2], []⟩) (I := fun (i : Nat × MI × Nat × MI × Nat) => i.1 ≤ 3 ∧ CI tris (fun x => cntA x (tris.take n) + cntv t x i.1) i.2.1 i.2.2.1 i.2.2.2.1) (m := fun (i : Nat × MI × Nat × MI × Nat) => 3 - i.1) (0, Lc, cc, Lo, co) (μr := [_]) ⟨Nat.zero_le _, hCI.congr (fun v _ => (Int.add_zero _).symm)⟩ (And.intro rfl (And.intro rfl (And.intro rfl (And.intro rfl (And.intro rfl (And.intro rfl (And.intro rfl (And.intro rfl (And.intro rfl (trivial)))))))))) (permI [1, 1] rfl) (fun _ h => nomatch h) ?_
  rintro ⟨k, Lc, cc, Lo, co⟩ ⟨hk, hCI⟩
  try dsimp only at hk
  try dsimp only at hCI
  show CJ _ _ _ [(0, .pointer (some ⟨B, 0, none⟩)), (3, .map (some cm)), (4, .map (some om)), (18, .slice h.T tris.length h.ct), (19, .int .i64 tris.length), (20, .int .i64 (n : Nat)), (5, .int .i64 (n : Nat)), (26, .agg #[.int .i64 t.v0, .int .i64 t.v1, .int .i64 t.v2]), (27, .int .i64 (k : Nat))] (mapR cm gI gI Lc cc :: mapR om gI gI Lo co :: _ :: _) _
  refine CJ_seq ?_
  refine CJ_reg ?_
  refine LJ_y rfl rfl (YJ_bin rfl rfl rfl) ?_
  refine LJ_nil ?_
  refine QJ_then ?_
  refine CJ_seq ?_
  refine CJ_cond rfl (fun h28 => ?_) (fun h28 => ?_)
  ·simp only [decide_eq_true_eq] at h28
   have hk3 : k < 3 := by omega
   refine CJ_skip ?_
   refine QJ_then ?_
   refine CJ_seq ?_
   refine CJ_block ?_
   refine CJ_seq ?_
   refine CJ_reg ?_
   refine LJ_y rfl rfl (YJ_index1 rfl rfl arrt_34 tyi_3 (by omega) (by omega) (vl_get hk3)) ?_
   refine LJ_y rfl rfl (YJ_assign rfl) ?_
   refine LJ_nil ?_
   refine QJ_then ?_
   refine CJ_seq ?_
   refine CJ_reg ?_
   refine LJ_y rfl rfl (YJ_move rfl) ?_
   refine LJ_y rfl rfl (YJ_bin rfl rfl rfl) ?_
   refine LJ_nil ?_
   refine QJ_then ?_
   refine CJ_cond rfl (fun h31 => ?_) (fun h31 => ?_)
   ·simp only [decide_eq_false_iff_not, Bool.not_eq_true'] at h31
    refine CJ_seq ?_
    refine CJ_reg ?_
    refine LJ_y rfl rfl (YJ_move rfl) ?_
    refine LJ_y rfl rfl (YJ_move rfl) ?_
    have hcb : 0 ≤ (mget (t.v k) Lc).getD 0 ∧ (mget (t.v k) Lc).getD 0 ≤ 3000009 := by
     rw [hCI.c0 _ h31]
     have q1 := cntA_b (t.v k) (tris.take n)
     have q2 := cntv_b t (t.v k) k
     have q3 : (tris.take n).length ≤ tris.length := by rw [List.length_take]; omega
     omega
    refine LJ_y rfl rfl (YJ_lookup (f := gI) (g := gI) (k := (t.v k)) rfl rfl umap_70 keyI zer_3 (MapAt_own (l := Lc) (c := cc) m0) rfl) ?_
    refine LJ_val (v := .int .i64 ((mget (t.v k) Lc).getD 0)) (getD_map) ?_
    refine LJ_y rfl rfl (YJ_bin rfl rfl (iop_add (by omega))) ?_
    refine LJ_mapUpdate (f := gI) (g := gI) (k := (t.v k)) (v := ((mget (t.v k) Lc).getD 0 + 1)) 0 rfl rfl rfl rfl rfl umap_70 keyI rfl rfl ?_
    show LJ _ _ _ _ _ (_ :: _ :: _ :: _) _
    refine LJ_nil ?_
    refine QJ_then ?_
    refine CJ_reg ?_
    refine LJ_y rfl rfl (YJ_move rfl) ?_
    refine LJ_y rfl rfl (YJ_move rfl) ?_
    refine LJ_y rfl rfl (YJ_move rfl) ?_
    refine LJ_mapUpdate (f := gI) (g := gI) (k := (t.v k)) (v := (n : Int)) 1 rfl rfl rfl rfl rfl umap_70 keyI rfl rfl ?_
    show LJ _ _ _ _ _ (_ :: _ :: _ :: _) _
    refine LJ_nil ?_
    refine QJ_in_normal ?_
    refine QJ_then ?_
    refine CJ_reg ?_
    refine LJ_y rfl rfl (YJ_bin rfl rfl (iop_add (by omega))) ?_
    refine LJ_y rfl rfl (YJ_move rfl) ?_
    refine LJ_nil ?_
    refine QJ_roundF (F := fun (i : Nat × MI × Nat × MI × Nat) => ⟨[(0, .pointer (some ⟨B, 0, none⟩)), (3, .map (some cm)), (4, .map (some om)), (18, .slice h.T tris.length h.ct), (19, .int .i64 tris.length), (20, .int .i64 (n : Nat)), (5, .int .i64 (n : Nat)), (26, .agg #[.int .i64 t.v0, .int .i64 t.v1, .int .i64 t.v2]), (27, .int .i64 (i.1 : Nat))], [mapR cm gI gI i.2.1 i.2.2.1, mapR om gI gI i.2.2.2.1 i.2.2.2.2], []⟩) (I := fun (i : Nat × MI × Nat × MI × Nat) => i.1 ≤ 3 ∧ CI tris (fun x => cntA x (tris.take n) + cntv t x i.1) i.2.1 i.2.2.1 i.2.2.2.1) (m := fun (i : Nat × MI × Nat × MI × Nat) => 3 - i.1) (i := _) ((k + 1, mput (t.v k) ((mget (t.v k) Lc).getD 0 + 1) Lc cc, mclk (t.v k) Lc cc, mput (t.v k) (n : Int) Lo co, mclk (t.v k) Lo co)) (μd := []) ⟨by omega, (hCI.step ht hk3 h31 (fun v => by have q1 := cntA_b v (tris.take n); have q2 := cntv_b t v k; omega)).congr (fun v _ => by dsimp only; rw [Int.add_assoc]; rfl)⟩ (by dsimp only; omega) (And.intro rfl (And.intro rfl (And.intro rfl (And.intro rfl (And.intro rfl (And.intro rfl (And.intro rfl (And.intro rfl (And.intro rfl (trivial)))))))))) (permI [] rfl) (fun _ h => nomatch h) (fun _ h => h)
   ·simp only [decide_eq_true_eq, Bool.not_eq_false'] at h31
    refine CJ_skip ?_
    refine QJ_in_normal ?_
    refine QJ_then ?_
    refine CJ_reg ?_
    refine LJ_y rfl rfl (YJ_bin rfl rfl (iop_add (by omega))) ?_
    refine LJ_y rfl rfl (YJ_move rfl) ?_
    refine LJ_nil ?_
    refine QJ_roundF (F := fun (i : Nat × MI × Nat × MI × Nat) => ⟨[(0, .pointer (some ⟨B, 0, none⟩)), (3, .map (some cm)), (4, .map (some om)), (18, .slice h.T tris.length h.ct), (19, .int .i64 tris.length), (20, .int .i64 (n : Nat)), (5, .int .i64 (n : Nat)), (26, .agg #[.int .i64 t.v0, .int .i64 t.v1, .int .i64 t.v2]), (27, .int .i64 (i.1 : Nat))], [mapR cm gI gI i.2.1 i.2.2.1, mapR om gI gI i.2.2.2.1 i.2.2.2.2], []⟩) (I := fun (i : Nat × MI × Nat × MI × Nat) => i.1 ≤ 3 ∧ CI tris (fun x => cntA x (tris.take n) + cntv t x i.1) i.2.1 i.2.2.1 i.2.2.2.1) (m := fun (i : Nat × MI × Nat × MI × Nat) => 3 - i.1) (i := _) ((k + 1, Lc, cc, Lo, co)) (μd := []) ⟨by omega, hCI.congr (fun v hv => by dsimp only; rw [show cntv t v (k + 1) = cntv t v k + (if t.v k = v then 1 else 0) from rfl, if_neg (by rw [h31]; exact fun q => hv q.symm), Int.add_zero])⟩ (by dsimp only; omega) (And.intro rfl (And.intro rfl (And.intro rfl (And.intro rfl (And.intro rfl (And.intro rfl (And.intro rfl (And.intro rfl (And.intro rfl (trivial)))))))))) (permI [] rfl) (fun _ h => nomatch h) (fun _ h => h)
  ·simp only [decide_eq_false_iff_not] at h28
   have hk3 : 3 = k := by omega
   subst hk3
   refine CJ_exit ?_
   refine QJ_then_exit ?_
   refine QJ_then_exit ?_
   refine QJ_in_exit ?_
   refine QJ_in_normal ?_
   refine QJ_then ?_
   refine CJ_reg ?_
   refine LJ_y rfl rfl (YJ_bin rfl rfl (iop_add (by omega))) ?_
   refine LJ_y rfl rfl (YJ_move rfl) ?_
   refine LJ_nil ?_
   refine QJ_roundF (F := fun (i : Nat × MI × Nat × MI × Nat) => ⟨[(0, .pointer (some ⟨B, 0, none⟩)), (3, .map (some cm)), (4, .map (some om)), (18, .slice h.T tris.length h.ct), (19, .int .i64 tris.length), (20, .int .i64 (i.1 : Nat))], [mapR cm gI gI i.2.1 i.2.2.1, mapR om gI gI i.2.2.2.1 i.2.2.2.2], []⟩) (I := fun (i : Nat × MI × Nat × MI × Nat) => i.1 ≤ tris.length ∧ CI tris (fun x => cntA x (tris.take i.1)) i.2.1 i.2.2.1 i.2.2.2.1) (m := fun (i : Nat × MI × Nat × MI × Nat) => tris.length - i.1) (i := (n, Lc, cc, Lo, co)) ((n + 1, Lc, cc, Lo, co)) (μd := [_]) ⟨by omega, hCI.congr (fun v _ => (cntA_take ht).symm)⟩ (by dsimp only; omega) (And.intro rfl (And.intro rfl (And.intro rfl (And.intro rfl (And.intro rfl (And.intro rfl (trivial))))))) (permI [] rfl) (fun _ h => nomatch h) (fun _ h => h)
 ·simp only [decide_eq_false_iff_not] at h21
  have hn9 : n = tris.length := by omega
  subst hn9
  rw [List.take_length] at hCI
  refine CJ_exit ?_
  refine QJ_then_exit ?_
  refine QJ_then_exit ?_
  refine QJ_in_exit ?_
  refine QJ_then ?_
  refine CJ_seq ?_
  refine CJ_seq ?_
  refine CJ_reg ?_
  refine LJ_y rfl rfl (YJ_move rfl) ?_
  refine LJ_range (f := gI) (g := gI) rfl rfl rfl umap_70 (MapAt_own (l := Lc) (c := cc) m0) ?_
  intro it
  refine LJ_nil ?_
  refine QJ_then ?_
  refine CJ_block ?_
  refine CJ_loopF (F := fun (i : List Nat) => ⟨[(0, .pointer (some ⟨B, 0, none⟩)), (3, .map (some cm)), (4, .map (some om)), (42, .pointer (some ⟨it, 0, none⟩))], [itR it cm cc i cc], []⟩) (I := fun (i : List Nat) => True) (m := fun (i : List Nat) => (leftL Lc i).length) [] (μr := [_, _]) trivial (And.intro rfl (And.intro rfl (And.intro rfl (And.intro rfl (trivial))))) (permI [] rfl) (fun _ h => nomatch h) ?_
  rintro seen -
  show CJ _ _ _ [(0, .pointer (some ⟨B, 0, none⟩)), (3, .map (some cm)), (4, .map (some om)), (42, .pointer (some ⟨it, 0, none⟩))] (itR it cm cc seen cc :: _ :: _ :: _) _
  refine CJ_seq ?_
  refine CJ_reg ?_
  refine LJ_next (f := gI) (g := gI) 0 rfl rfl rfl rfl (MapAt_own (l := Lc) (c := cc) m1) hCI.bc (Nat.le_refl _) (fun h43 => ?_) (fun e43 he43 => ?_)
  ·show LJ _ _ _ _ _ (_ :: _ :: _ :: _) _
   refine LJ_y rfl rfl (YJ_extract rfl rfl) ?_
   refine LJ_nil ?_
   refine QJ_then ?_
   refine CJ_seq ?_
   refine CJ_condF rfl ?_
   refine CJ_exit ?_
   refine QJ_then_exit ?_
   refine QJ_then_exit ?_
   refine QJ_in_exit ?_
   refine QJ_then ?_
   refine CJ_seq ?_
   refine CJ_seq ?_
   refine CJ_reg ?_
   refine LJ_y rfl rfl (YJ_move rfl) ?_
   refine LJ_y rfl rfl (YJ_nilCheck rfl) ?_
   refine LJ_y rfl rfl (YJ_fieldOwn rfl fld_57_3 rfl) ?_
   refine LJ_y rfl rfl (YJ_loadFactP (A := some ⟨B, 0, none⟩) (j := 3) rfl rfl tyi_55 m0 rfl) ?_
   refine LJ_val (v := .slice h.A ats.length h.ca) (by rw [hna]) ?_
   refine LJ_y rfl rfl (YJ_len rfl ulen_55 rfl) ?_
   refine LJ_y rfl rfl (YJ_move rfl) ?_
   refine LJ_nil ?_
   refine QJ_then ?_
   refine CJ_block ?_
   refine CJ_loopF (F := fun (i : Nat) => ⟨[(0, .pointer (some ⟨B, 0, none⟩)), (3, .map (some cm)), (4, .map (some om)), (59, .slice h.A ats.length h.ca), (60, .int .i64 ats.length), (61, .int .i64 (i : Nat))], [], []⟩) (I := fun (i : Nat) => i ≤ ats.length) (m := fun (i : Nat) => ats.length - i) 0 (μr := [_, _, _]) (Nat.zero_le _) (And.intro rfl (And.intro rfl (And.intro rfl (And.intro rfl (And.intro rfl (And.intro rfl (trivial))))))) (permI [] rfl) (fun _ h => nomatch h) ?_
   rintro j hj
   try dsimp only at hj
   show CJ _ _ _ [(0, .pointer (some ⟨B, 0, none⟩)), (3, .map (some cm)), (4, .map (some om)), (59, .slice h.A ats.length h.ca), (60, .int .i64 ats.length), (61, .int .i64 (j : Nat))] (_ :: _ :: _ :: _) _
   refine CJ_seq ?_
   refine CJ_reg ?_
   refine LJ_y rfl rfl (YJ_bin rfl rfl rfl) ?_
   refine LJ_nil ?_
   refine QJ_then ?_
   refine CJ_seq ?_
   refine CJ_cond rfl (fun h62 => ?_) (fun h62 => ?_)
   ·simp only [decide_eq_true_eq] at h62
    obtain ⟨a, ha⟩ := get_at h62
    obtain ⟨ha1, ha2, ha3⟩ := hSt.at_ j a ha
    refine CJ_skip ?_
    refine QJ_then ?_
    refine CJ_seq ?_
    refine CJ_block ?_
    refine CJ_seq ?_
    refine CJ_reg ?_
    refine LJ_y rfl rfl (YJ_move rfl) ?_
    refine LJ_y rfl rfl (YJ_ixFact (n' := ats.length) rfl rfl elt_55 m3 (by decide) (by omega) (by omega) (by omega)) ?_
    refine LJ_y rfl rfl (YJ_loadFactP (A := h.A) (j := j) (v := .int .i64 a) rfl (congrArg _ (by omega)) tyi_3 m3 (by rw [Iv, List.getElem?_map, ha]; rfl)) ?_
    refine LJ_y rfl rfl (YJ_assign rfl) ?_
    refine LJ_y rfl rfl (YJ_assign rfl) ?_
    refine LJ_nil ?_
    refine QJ_then ?_
    refine CJ_seq ?_
    refine CJ_reg ?_
    refine LJ_y rfl rfl (YJ_move rfl) ?_
    refine LJ_y rfl rfl (YJ_bin rfl rfl rfl) ?_
    refine LJ_y rfl rfl (YJ_move rfl) ?_
    refine LJ_y rfl rfl (YJ_move rfl) ?_
    refine LJ_y rfl rfl (YJ_lookup (f := gI) (g := gI) (k := (j : Int)) rfl rfl umap_70 keyI zer_3 (MapAt_own (l := Lc) (c := cc) m1) rfl) ?_
    refine LJ_val (v := .int .i64 ((mget (j : Int) Lc).getD 0)) (getD_map) ?_
    refine LJ_y rfl rfl (YJ_bin rfl rfl rfl) ?_
    refine LJ_y rfl rfl (YJ_neb rfl rfl ubool_4) ?_
    refine LJ_val (v := .bool false) (by rw [hCI.c0 _ (by omega)]; exact congrArg Value.bool (by simp [ha1])) ?_
    refine LJ_y rfl rfl (YJ_move rfl) ?_
    refine LJ_bool (c := false) rfl ?_
    refine LJ_y rfl rfl (YJ_move rfl) ?_
    refine LJ_y rfl rfl (YJ_move rfl) ?_
    refine LJ_y rfl rfl (YJ_nilCheck rfl) ?_
    refine LJ_y rfl rfl (YJ_fieldOwn rfl fld_57_1 rfl) ?_
    refine LJ_y rfl rfl (YJ_loadFactP (A := some ⟨B, 0, none⟩) (j := 1) rfl rfl tyi_54 m0 rfl) ?_
    refine LJ_y rfl rfl (YJ_len rfl ulen_54 rfl) ?_
    refine LJ_y rfl rfl (YJ_bin rfl rfl rfl) ?_
    refine LJ_val (v := .bool false) (congrArg Value.bool (decide_eq_false (by omega))) ?_
    refine LJ_y rfl rfl (YJ_pickF rfl rfl) ?_
    refine LJ_y rfl rfl (YJ_move rfl) ?_
    refine LJ_bool (c := false) rfl ?_
    refine LJ_y rfl rfl (YJ_move rfl) ?_
    refine LJ_y rfl rfl (YJ_bin rfl rfl rfl) ?_
    refine LJ_y rfl rfl (YJ_move rfl) ?_
    refine LJ_boolC (fun h85 => ?_) (fun h85 => ?_)
    ·simp only [decide_eq_true_eq] at h85
     obtain ⟨ta, hta, hpl⟩ := ha3 h85
     have hal9 := (List.getElem?_eq_some_iff.1 hta).1
     refine LJ_y rfl rfl (YJ_move rfl) ?_
     refine LJ_y rfl rfl (YJ_nilCheck rfl) ?_
     refine LJ_y rfl rfl (YJ_fieldOwn rfl fld_57_1 rfl) ?_
     refine LJ_y rfl rfl (YJ_loadFactP (A := some ⟨B, 0, none⟩) (j := 1) rfl rfl tyi_54 m0 rfl) ?_
     refine LJ_y rfl rfl (YJ_move rfl) ?_
     refine LJ_y rfl rfl (YJ_ixFact rfl rfl elt_54 m2 (by decide) (by omega) (by omega) (by omega)) ?_
     refine LJ_y rfl rfl (YJ_loadFactN (vs := [.int .i64 ta.v0, .int .i64 ta.v1, .int .i64 ta.v2, .int .i64 ta.n0, .int .i64 ta.n1, .int .i64 ta.n2, .bool ta.f0, .bool ta.f1, .bool ta.f2]) (xs := trCells tris) rfl tyi_37 m2 (trCells_row hta) rfl) ?_
     refine LJ_y rfl rfl (YJ_move rfl) ?_
     refine LJ_call0 rfl rfl rfl rfl rfl (place_c (t := ta) (v := (j : Int))) (fun _ h => nomatch h) ?_
     refine LJ_y rfl rfl (YJ_bin rfl rfl rfl) ?_
     refine LJ_val (v := .bool false) (congrArg Value.bool (decide_eq_false (by omega))) ?_
     refine LJ_y rfl rfl (YJ_pickT rfl rfl) ?_
     refine LJ_y rfl rfl (YJ_pickF rfl rfl) ?_
     refine LJ_nil ?_
     refine QJ_then ?_
     refine CJ_condF rfl ?_
     refine CJ_skip ?_
     refine QJ_in_normal ?_
     refine QJ_then ?_
     refine CJ_reg ?_
     refine LJ_y rfl rfl (YJ_bin rfl rfl (iop_add (by omega))) ?_
     refine LJ_y rfl rfl (YJ_move rfl) ?_
     refine LJ_nil ?_
     refine QJ_roundF (F := fun (i : Nat) => ⟨[(0, .pointer (some ⟨B, 0, none⟩)), (3, .map (some cm)), (4, .map (some om)), (59, .slice h.A ats.length h.ca), (60, .int .i64 ats.length), (61, .int .i64 (i : Nat))], [], []⟩) (I := fun (i : Nat) => i ≤ ats.length) (m := fun (i : Nat) => ats.length - i) (i := j) (j + 1) (μd := []) (by omega) (by omega) (And.intro rfl (And.intro rfl (And.intro rfl (And.intro rfl (And.intro rfl (And.intro rfl (trivial))))))) (permI [] rfl) (fun _ h => nomatch h) (fun _ h => h)
    ·simp only [decide_eq_false_iff_not] at h85
     refine LJ_skip rfl rfl ?_
     refine LJ_skip rfl rfl ?_
     refine LJ_skip rfl rfl ?_
     refine LJ_skip rfl rfl ?_
     refine LJ_skip rfl rfl ?_
     refine LJ_skip rfl rfl ?_
     refine LJ_skip rfl rfl ?_
     refine LJ_skip rfl rfl ?_
     refine LJ_skip rfl rfl ?_
     refine LJ_skip rfl rfl ?_
     refine LJ_y rfl rfl (YJ_pickF rfl rfl) ?_
     refine LJ_y rfl rfl (YJ_pickF rfl rfl) ?_
     refine LJ_nil ?_
     refine QJ_then ?_
     refine CJ_condF rfl ?_
     refine CJ_skip ?_
     refine QJ_in_normal ?_
     refine QJ_then ?_
     refine CJ_reg ?_
     refine LJ_y rfl rfl (YJ_bin rfl rfl (iop_add (by omega))) ?_
     refine LJ_y rfl rfl (YJ_move rfl) ?_
     refine LJ_nil ?_
     refine QJ_roundF (F := fun (i : Nat) => ⟨[(0, .pointer (some ⟨B, 0, none⟩)), (3, .map (some cm)), (4, .map (some om)), (59, .slice h.A ats.length h.ca), (60, .int .i64 ats.length), (61, .int .i64 (i : Nat))], [], []⟩) (I := fun (i : Nat) => i ≤ ats.length) (m := fun (i : Nat) => ats.length - i) (i := j) (j + 1) (μd := []) (by omega) (by omega) (And.intro rfl (And.intro rfl (And.intro rfl (And.intro rfl (And.intro rfl (And.intro rfl (trivial))))))) (permI [] rfl) (fun _ h => nomatch h) (fun _ h => h)
   ·simp only [decide_eq_false_iff_not] at h62
    refine CJ_exit ?_
    refine QJ_then_exit ?_
    refine QJ_then_exit ?_
    refine QJ_in_exit ?_
    refine QJ_then ?_
    refine CJ_seq ?_
    refine CJ_reg ?_
    refine LJ_y rfl rfl (YJ_move rfl) ?_
    refine LJ_y rfl rfl (YJ_lookup (f := gI) (g := gI) (k := (-1 : Int)) rfl rfl umap_70 keyI zer_3 (MapAt_own (l := Lc) (c := cc) m1) rfl) ?_
    refine LJ_val (v := .int .i64 ((mget (-1) Lc).getD 0)) (getD_map) ?_
    refine LJ_y rfl rfl (YJ_bin rfl rfl rfl) ?_
    refine LJ_y rfl rfl (YJ_assign rfl) ?_
    refine LJ_nil ?_
    refine QJ_then ?_
    refine CJ_ret ?_
    refine QJ_fin (.inl rfl) (μ' := []) (μr := _) (φ' := []) (res_tmp rfl rfl) (List.Perm.refl _) (fun _ h => nomatch h) ?_
    exact ⟨congrArg Value.bool (decide_eq_true (by rw [hCI.c0 _ (by decide)]; exact hSt.gh)), rfl, rfl⟩
  ·show LJ _ _ _ _ _ (_ :: _ :: _ :: _) _
   have hem := left_memG he43
   have hke := hCI.kc _ hem.1
   obtain ⟨n0, hn0⟩ := hCI.oc _ hem.1
   obtain ⟨hn1, t0, k0, ht0, hk0, htv⟩ := hCI.o _ _ hn0
   obtain ⟨S9, hf9, hS9⟩ := hSt.cl e43.1 n0.toNat k0 t0 hke.1 ht0 hk0 htv
   rw [Int.toNat_of_nonneg hn1] at hf9
   refine LJ_y rfl rfl (YJ_extract rfl rfl) ?_
   refine LJ_nil ?_
   refine QJ_then ?_
   refine CJ_seq ?_
   refine CJ_condT rfl ?_
   refine CJ_skip ?_
   refine QJ_then ?_
   refine CJ_block ?_
   refine CJ_seq ?_
   refine CJ_reg ?_
   refine LJ_y rfl rfl (YJ_entry (f := gI) (g := gI) rfl m0 (MapAt_own (l := Lc) (c := cc) m1) hem.1 hCI.bn) ?_
   refine LJ_y rfl rfl (YJ_extract rfl rfl) ?_
   refine LJ_y rfl rfl (YJ_extract rfl rfl) ?_
   refine LJ_y rfl rfl (YJ_assign rfl) ?_
   refine LJ_y rfl rfl (YJ_assign rfl) ?_
   refine LJ_nil ?_
   refine QJ_then ?_
   refine CJ_seq ?_
   refine CJ_reg ?_
   refine LJ_y rfl rfl (YJ_move rfl) ?_
   refine LJ_y rfl rfl (YJ_move rfl) ?_
   refine LJ_y rfl rfl (YJ_move rfl) ?_
   refine LJ_y rfl rfl (YJ_move rfl) ?_
   refine LJ_y rfl rfl (YJ_lookup (f := gI) (g := gI) (k := (e43.1)) rfl rfl umap_70 keyI zer_3 (MapAt_own (l := Lo) (c := co) m2) rfl) ?_
   refine LJ_val (v := .int .i64 n0) (by rw [hn0]; rfl) ?_
   refine LJ_callX rfl rfl rfl rfl rfl (round_c (h := h) (pts := pts) (S := S9) hS9 hf9 (by omega)) (at_mesh (fun r h => h)) ?_
   intro m9 hm9
   have hm9e : (m9 : Int) = e43.2.1 := by
    have hn9 : ((n0.toNat : Nat) : Int) = n0 := Int.toNat_of_nonneg hn1
    rw [← hn9] at hm9
    rw [hSt.rd e43.1 n0.toNat k0 t0 m9 hke.1 ht0 hk0 htv hm9]
    have q1 := hCI.c0 e43.1 hke.1
    rw [mget_of_mem hCI.kn hem.1] at q1
    exact q1.symm
   refine LJ_y rfl rfl (YJ_move rfl) ?_
   refine LJ_y rfl rfl (YJ_bin rfl rfl rfl) ?_
   refine LJ_nil ?_
   refine QJ_then ?_
   refine CJ_cond rfl (fun h55 => ?_) (fun h55 => ?_)
   ·simp only [decide_eq_false_iff_not, Bool.not_eq_true'] at h55
    exact absurd hm9e h55
   ·simp only [decide_eq_true_eq, Bool.not_eq_false'] at h55
    refine CJ_skip ?_
    refine QJ_in_normal ?_
    refine QJ_roundF (F := fun (i : List Nat) => ⟨[(0, .pointer (some ⟨B, 0, none⟩)), (3, .map (some cm)), (4, .map (some om)), (42, .pointer (some ⟨it, 0, none⟩))], [itR it cm cc i cc], []⟩) (I := fun (i : List Nat) => True) (m := fun (i : List Nat) => (leftL Lc i).length) (i := seen) (seen ++ [e43.2.2]) (μd := []) trivial (left_ltG he43) (And.intro rfl (And.intro rfl (And.intro rfl (And.intro rfl (trivial))))) (permI [] rfl) (fun _ h => nomatch h) (fun _ h => h)
end Go.Proofs.Ytbanlhlggkdanaa
namespace Go.Proofs.Ytbanlhlggkdanaa
open Go.RowKit
theorem ent_32 : Enter Try.prog 32 = true := by kernel_rfl
theorem zer_70 : zer Try.prog 70 = some (.map none) := by kernel_rfl
theorem tyi_70 : tyi Try.prog 70 = some (false, 1) := by kernel_rfl
def hullE (tris : List Tr) (t : Tr) (s : MI × Nat × Int) (k : Nat) : MI × Nat × Int :=
 if isReal tris (t.n k) then s else (mput (t.v ((k + 1) % 3)) (t.v ((k + 2) % 3)) s.1 s.2.1, mclk (t.v ((k + 1) % 3)) s.1 s.2.1, min s.2.2 (t.v ((k + 1) % 3)))
def hullT (tris : List Tr) (s : MI × Nat × Int) (x : Nat × Tr) : MI × Nat × Int := [0, 1, 2].foldl (hullE tris x.2) s
def hullM (tris : List Tr) (n0 : Int) : MI × Nat × Int := (reals tris).foldl (hullT tris) ([], 0, n0)
def itN (L : MI) : Nat → Int → Int
 | 0, v => v
 | n + 1, v => (mget (itN L n v) L).getD 0
def hullW (s : MI × Nat × Int) : List Int := (List.range s.1.length).map fun i => itN s.1 i s.2.2
def hullOf (tris : List Tr) (n0 : Int) : List Int := hullW (hullM tris n0)
theorem hull_three {tris : List Tr} {t : Tr} {s : MI × Nat × Int} {k : Nat} (hk : k < 3) : ([0, 1, 2].take (k + 1)).foldl (hullE tris t) s = hullE tris t (([0, 1, 2].take k).foldl (hullE tris t) s) k := by
 match k, hk with
 | 0, _ => rfl
 | 1, _ => rfl
 | 2, _ => rfl
theorem hullE_len {tris : List Tr} {t : Tr} {s : MI × Nat × Int} {k : Nat} : (hullE tris t s k).1.length ≤ s.1.length + 1 := by
 unfold hullE
 split
 ·omega
 ·exact mput_len
theorem hull_len {tris : List Tr} : ∀ (l : List (Nat × Tr)) (s : MI × Nat × Int), (l.foldl (hullT tris) s).1.length ≤ s.1.length + 3 * l.length
 | [], s => by simp
 | x :: l, s => by
  have h1 := hull_len (tris := tris) l (hullT tris s x)
  have h2 : (hullT tris s x).1.length ≤ s.1.length + 3 := by
   show (hullE tris x.2 (hullE tris x.2 (hullE tris x.2 s 0) 1) 2).1.length ≤ _
   exact Nat.le_trans hullE_len (Nat.succ_le_succ (Nat.le_trans hullE_len (Nat.succ_le_succ hullE_len)))
  rw [List.foldl_cons, List.length_cons]
  omega
theorem realsF_len : ∀ (l : List Tr) (k : Nat), (realsF k l).length ≤ l.length
 | [], _ => Nat.le_refl _
 | t :: l, k => by
  have := realsF_len l (k + 1)
  unfold realsF
  split
  ·rw [List.length_cons, List.length_cons]; omega
  ·rw [List.length_cons]; omega
theorem range_it (L : MI) (k : Nat) (f : Int) : Iv ((List.range k).map fun i => itN L i f) ++ [.int .i64 (itN L k f)] = Iv ((List.range (k + 1)).map fun i => itN L i f) := by
 rw [List.range_succ, List.map_append, Iv_app]
 rfl
set_option maxRecDepth 100000 in
set_option maxHeartbeats 16000000 in
theorem hull_c {B : Nat} {h : Mh} {pts : List (Int × Int)} {tris : List Tr} (hlen : tris.length ≤ 1000000) : Tri Try.prog 32 [.pointer (some ⟨B, 0, none⟩)] [] (meshFs B h pts tris) (RetX (fun (x : Option Addr × Nat × List Int) => x.2.2 = hullOf tris (pts.length : Nat)) (fun x => .slice x.1 x.2.2.length x.2.1) (fun _ => []) (fun x => [sliceR 1 x.1 x.2.2.length (Iv x.2.2)])) := by
 refine Tri_ofM (N := 63) Try.func32 rfl ent_32 rfl rfl ?_
 intro w0 S0 T0
 show CJ _ _ _ [(0, _)] _ _
 refine CJ_seq ?_
 refine CJ_reg ?_
 refine LJ_box (cs := #[_]) rfl rfl rfl rfl ?_
 intro b1
 refine LJ_y rfl rfl (YJ_assign rfl) ?_
 refine LJ_nil ?_
 refine QJ_then ?_
 refine CJ_seq ?_
 refine CJ_reg ?_
 refine LJ_makeMap rfl rfl ?_
 intro hm
 refine LJ_alloc (cs := #[_]) rfl rfl zer_70 rfl ?_
 intro b3
 refine LJ_store (cs' := #[_]) (μ' := [_, _, _]) 0 rfl rfl rfl rfl tyi_70 rfl (Nat.le_of_ble_eq_true rfl) rfl rfl rfl ?_
 refine LJ_nil ?_
 refine QJ_then ?_
 refine CJ_seq ?_
 refine CJ_reg ?_
 refine LJ_y rfl rfl (YJ_loadL rfl tyi_28 m2 rfl) ?_
 refine LJ_y rfl rfl (YJ_nilCheck rfl) ?_
 refine LJ_y rfl rfl (YJ_fieldOwn rfl fld_57_0 rfl) ?_
 refine LJ_y rfl rfl (YJ_loadFactP (A := some ⟨B, 0, none⟩) (j := 0) rfl rfl tyi_26 m0 rfl) ?_
 refine LJ_y rfl rfl (YJ_len rfl ulen_26 rfl) ?_
 refine LJ_alloc (cs := #[_]) rfl rfl zer_3 rfl ?_
 intro b4
 refine LJ_store (cs' := #[_]) (μ' := [_, _, _, _]) 0 rfl rfl rfl rfl tyi_3 rfl (Nat.le_of_ble_eq_true rfl) rfl rfl rfl ?_
 refine LJ_nil ?_
 refine QJ_then ?_
 refine CJ_seq ?_
 refine CJ_seq ?_
 refine CJ_reg ?_
 refine LJ_y rfl rfl (YJ_loadL rfl tyi_28 m3 rfl) ?_
 refine LJ_callX rfl rfl rfl rfl rfl (all_c (B := B)) (fun _ h => nomatch h) ?_
 intro bA _
 refine LJ_nil ?_
 refine QJ_then ?_
 refine CJ_block ?_
 have hlen9 : tris.length ≤ 1073741824 := by omega
 refine CJ_rangeFunc (μr := []) rfl (all_it (h := h) (pts := pts) (tris := tris) hlen9) (fun r h => h) (fun _ => rfl) (by kernel_rfl) (L := { ι := MI × Nat × Int, I := fun pre s => s = pre.foldl (hullT tris) ([], 0, (pts.length : Nat)), F := fun _ s => ([mapR hm gI gI s.1 s.2.1, cellsR b4 #[.int .i64 s.2.2] 3, cellsR b3 #[.map (some hm)] 70, cellsR b1 #[.pointer (some ⟨B, 0, none⟩)] 28], []), κ := Unit, Ix := fun _ _ _ => False, Fx := fun _ _ => ([], []) }) ([], 0, (pts.length : Nat)) rfl (permI [2] rfl) (fun _ h => nomatch h) ?_ ?_ ?_
 ·intro lR DR fnR tmpsR WR SR TR pre xR iR hpre hI
  obtain ⟨n, t⟩ := xR
  have hti : tris[n]? = some t := (reals_mem.1 (hpre.subset (by simp))).1
  obtain ⟨L0, c0, f0⟩ := iR
  show RJ _ _ _ _ _ ((20, _) :: (19, _) :: _) (objR lR _ :: defR DR :: mapR hm gI gI L0 c0 :: cellsR b4 #[.int .i64 f0] _ :: _ :: _ :: []) _
  refine RJ_reg (by kernel_rfl) ?_
  refine LJ_alloc (cs := #[_, _, _, _, _, _, _, _, _]) rfl rfl zer_37 rfl ?_
  intro b5
  refine LJ_store (cs' := #[_, _, _, _, _, _, _, _, _]) (μ' := [_, _, _, _, _, _, _]) 0 rfl rfl rfl rfl tyi_37 rfl (Nat.le_of_ble_eq_true rfl) rfl (wr_all rfl) rfl ?_
  refine LJ_nil ?_
  refine QJ_begin (μr := [_, _, _, _, _, _]) (permI [1] rfl) ?_
  refine RJ_block ?_
  refine RJ_seq ?_
  refine RJ_reg (by kernel_rfl) ?_
  refine LJ_y rfl rfl (YJ_move rfl) ?_
  refine LJ_nil ?_
  refine QJ_thenR (by repeat with_reducible first | exact no_round | exact no_begin | apply no_then | apply no_block) ?_
  refine RJ_block ?_
  refine RJ_loopF (F := fun (i : Nat × MI × Nat × Int) => ⟨[(1, .pointer (some ⟨b1, 0, none⟩)), (3, .pointer (some ⟨b3, 0, none⟩)), (4, .pointer (some ⟨b4, 0, none⟩)), (6, .pointer (some ⟨b5, 0, none⟩)), (21, .int .i64 (i.1 : Nat))], [mapR hm gI gI i.2.1 i.2.2.1, cellsR b4 #[.int .i64 i.2.2.2] 3], []⟩) (I := fun (i : Nat × MI × Nat × Int) => i.1 ≤ 3 ∧ i.2 = ([0, 1, 2].take i.1).foldl (hullE tris t) (L0, c0, f0)) (m := fun (i : Nat × MI × Nat × Int) => 3 - i.1) (0, L0, c0, f0) (μr := [_, _, _, _, _]) ⟨Nat.zero_le _, rfl⟩ (And.intro rfl (And.intro rfl (And.intro rfl (And.intro rfl (And.intro rfl (trivial)))))) (permI [3, 3] rfl) (fun _ h => nomatch h) ?_
  rintro ⟨k, L1, c1, f1⟩ ⟨hk, hs⟩
  try dsimp only at hk
  try dsimp only at hs
  show RJ _ _ _ _ _ [(1, .pointer (some ⟨b1, 0, none⟩)), (3, .pointer (some ⟨b3, 0, none⟩)), (4, .pointer (some ⟨b4, 0, none⟩)), (6, .pointer (some ⟨b5, 0, none⟩)), (21, .int .i64 (k : Nat))] (mapR hm gI gI L1 c1 :: cellsR b4 #[.int .i64 f1] 3 :: _ :: _ :: _ :: _ :: _ :: _) _
  refine RJ_seq ?_
  refine RJ_reg (by kernel_rfl) ?_
  refine LJ_y rfl rfl (YJ_bin rfl rfl rfl) ?_
  refine LJ_nil ?_
  refine QJ_thenR (by repeat with_reducible first | exact no_round | exact no_begin | apply no_then | apply no_block) ?_
  refine RJ_seq ?_
  refine RJ_cond rfl (fun h22 => ?_) (fun h22 => ?_)
  ·simp only [decide_eq_true_eq] at h22
   have hk3 : k < 3 := by omega
   refine RJ_skip ?_
   refine QJ_thenR (by repeat with_reducible first | exact no_round | exact no_begin | apply no_then | apply no_block) ?_
   refine RJ_seq ?_
   refine RJ_block ?_
   refine RJ_seq ?_
   refine RJ_reg (by kernel_rfl) ?_
   refine LJ_y rfl rfl (YJ_move rfl) ?_
   refine LJ_y rfl rfl (YJ_assign rfl) ?_
   refine LJ_nil ?_
   refine QJ_thenR (by repeat with_reducible first | exact no_round | exact no_begin | apply no_then | apply no_block) ?_
   refine RJ_seq ?_
   refine RJ_regD mix (by kernel_rfl) (fun _ _ _ _ _ h => h) _ _ (fun _ h => h) (fun _ h => h) (by kernel_rfl) ?_
   refine AJ_y 0 rfl (by kernel_rfl) (by kernel_rfl) rfl rfl (YJ_loadL rfl tyi_28 m6 rfl) ?_
   refine AJ_y 1 rfl (by kernel_rfl) (by kernel_rfl) rfl rfl (YJ_move rfl) ?_
   refine AJ_y 2 rfl (by kernel_rfl) (by kernel_rfl) rfl rfl (YJ_fieldOwn rfl fld_37_1 rfl) ?_
   refine AJ_y 3 rfl (by kernel_rfl) (by kernel_rfl) rfl rfl (YJ_ixArr rfl rfl arrt_34 (by omega) (by omega) rfl) ?_
   refine AJ_y 4 rfl (by kernel_rfl) (by kernel_rfl) rfl rfl (YJ_load1 rfl tyi_3 m3 (na_get (t := t) hk3)) ?_
   refine AJ_call0 5 rfl (by kernel_rfl) rfl rfl rfl rfl rfl (real_c (h := h) (pts := pts) (tris := tris)) (fun r h => .tail _ h) ?_
   refine AJ_y 6 rfl (by kernel_rfl) (by kernel_rfl) rfl rfl (YJ_not rfl) ?_
   refine AJ_done (by kernel_rfl) ?_
   refine QJ_thenR (by repeat with_reducible first | exact no_round | exact no_begin | apply no_then | apply no_block) ?_
   refine RJ_cond rfl (fun h30 => ?_) (fun h30 => ?_)
   ·simp only [decide_eq_false_iff_not, Bool.not_eq_true'] at h30
    refine RJ_seq ?_
    refine RJ_reg (by kernel_rfl) ?_
    refine LJ_y rfl rfl (YJ_move rfl) ?_
    refine LJ_y rfl rfl (YJ_bin rfl rfl (iop_add (by omega))) ?_
    refine LJ_y rfl rfl (YJ_rem rfl rfl (by first | decide | omega)) ?_
    refine LJ_val (v := .int .i64 (((k + 1) % 3 : Nat) : Int)) (congrArg (Value.int .i64) (tm3 (j := 1) hk3 (by decide))) ?_
    refine LJ_y rfl rfl (YJ_fieldOwn rfl fld_37_0 rfl) ?_
    refine LJ_y rfl rfl (YJ_ixArr rfl rfl arrt_34 (by omega) (by omega) rfl) ?_
    refine LJ_y rfl rfl (YJ_load1 rfl tyi_3 m3 (v_get (t := t) (Nat.mod_lt (k + 1) (by decide)))) ?_
    refine LJ_y rfl rfl (YJ_assign rfl) ?_
    refine LJ_nil ?_
    refine QJ_thenR (by repeat with_reducible first | exact no_round | exact no_begin | apply no_then | apply no_block) ?_
    refine RJ_seq ?_
    refine RJ_regD mix (by kernel_rfl) (fun _ _ _ _ _ h => h) (selR [1, 2, 3, 4, 5, 6] _) _ (selR_sub _ _) (fun _ h => h) (by kernel_rfl) ?_
    refine AJ_y 0 rfl (by kernel_rfl) (by kernel_rfl) rfl rfl (YJ_loadL rfl tyi_70 m4 rfl) ?_
    refine AJ_y 1 rfl (by kernel_rfl) (by kernel_rfl) rfl rfl (YJ_move rfl) ?_
    refine AJ_y 2 rfl (by kernel_rfl) (by kernel_rfl) rfl rfl (YJ_move rfl) ?_
    refine AJ_y 3 rfl (by kernel_rfl) (by kernel_rfl) rfl rfl (YJ_bin rfl rfl (iop_add (by omega))) ?_
    refine AJ_y 4 rfl (by kernel_rfl) (by kernel_rfl) rfl rfl (YJ_rem rfl rfl (by first | decide | omega)) ?_
    refine AJ_val (v := .int .i64 (((k + 2) % 3 : Nat) : Int)) (congrArg (Value.int .i64) (tm3 (j := 2) hk3 (by decide))) ?_
    refine AJ_y 5 rfl (by kernel_rfl) (by kernel_rfl) rfl rfl (YJ_fieldOwn rfl fld_37_0 rfl) ?_
    refine AJ_y 6 rfl (by kernel_rfl) (by kernel_rfl) rfl rfl (YJ_ixArr rfl rfl arrt_34 (by omega) (by omega) rfl) ?_
    refine AJ_y 7 rfl (by kernel_rfl) (by kernel_rfl) rfl rfl (YJ_load1 rfl tyi_3 m2 (v_get (t := t) (Nat.mod_lt (k + 2) (by decide)))) ?_
    refine AJ_mapUpdate (f := gI) (g := gI) (k := (t.v ((k + 1) % 3))) (v := (t.v ((k + 2) % 3))) 8 0 rfl (by kernel_rfl) rfl rfl rfl rfl rfl umap_70 keyI rfl rfl (AllIn.sub (And.intro m1 (And.intro m2 (And.intro m3 (And.intro m4 (And.intro m5 (And.intro m6 (trivial)))))))) ?_
    show AJ _ _ _ _ _ _ _ _ (_ :: _ :: _ :: _ :: _ :: _ :: _ :: _) _
    refine AJ_done (by kernel_rfl) ?_
    refine QJ_thenR (by repeat with_reducible first | exact no_round | exact no_begin | apply no_then | apply no_block) ?_
    refine RJ_reg (by kernel_rfl) ?_
    refine LJ_y rfl rfl (YJ_loadL rfl tyi_3 m1 rfl) ?_
    refine LJ_y rfl rfl (YJ_move rfl) ?_
    refine LJ_y rfl rfl (YJ_min2 rfl rfl) ?_
    refine LJ_store (cs' := #[_]) (μ' := [_, _, _, _, _, _, _]) 1 rfl rfl rfl rfl tyi_3 rfl (Nat.le_of_ble_eq_true rfl) rfl rfl rfl ?_
    refine LJ_nil ?_
    refine QJ_in_normal ?_
    refine QJ_thenR (by repeat with_reducible first | exact no_round | exact no_begin | apply no_then | apply no_block) ?_
    refine RJ_reg (by kernel_rfl) ?_
    refine LJ_y rfl rfl (YJ_bin rfl rfl (iop_add (by omega))) ?_
    refine LJ_y rfl rfl (YJ_move rfl) ?_
    refine LJ_nil ?_
    refine QJ_roundF (F := fun (i : Nat × MI × Nat × Int) => ⟨[(1, .pointer (some ⟨b1, 0, none⟩)), (3, .pointer (some ⟨b3, 0, none⟩)), (4, .pointer (some ⟨b4, 0, none⟩)), (6, .pointer (some ⟨b5, 0, none⟩)), (21, .int .i64 (i.1 : Nat))], [mapR hm gI gI i.2.1 i.2.2.1, cellsR b4 #[.int .i64 i.2.2.2] 3], []⟩) (I := fun (i : Nat × MI × Nat × Int) => i.1 ≤ 3 ∧ i.2 = ([0, 1, 2].take i.1).foldl (hullE tris t) (L0, c0, f0)) (m := fun (i : Nat × MI × Nat × Int) => 3 - i.1) (i := (k, L1, c1, f1)) ((k + 1, mput (t.v ((k + 1) % 3)) (t.v ((k + 2) % 3)) L1 c1, mclk (t.v ((k + 1) % 3)) L1 c1, min f1 (t.v ((k + 1) % 3)))) (μd := []) ⟨by omega, by dsimp only; rw [hull_three hk3, ← hs]; unfold hullE; rw [if_neg h30]⟩ (by dsimp only; omega) (And.intro rfl (And.intro rfl (And.intro rfl (And.intro rfl (And.intro rfl (trivial)))))) (permI [] rfl) (fun _ h => nomatch h) (fun _ h => h)
   ·simp only [decide_eq_true_eq, Bool.not_eq_false'] at h30
    refine RJ_skip ?_
    refine QJ_in_normal ?_
    refine QJ_thenR (by repeat with_reducible first | exact no_round | exact no_begin | apply no_then | apply no_block) ?_
    refine RJ_reg (by kernel_rfl) ?_
    refine LJ_y rfl rfl (YJ_bin rfl rfl (iop_add (by omega))) ?_
    refine LJ_y rfl rfl (YJ_move rfl) ?_
    refine LJ_nil ?_
    refine QJ_roundF (F := fun (i : Nat × MI × Nat × Int) => ⟨[(1, .pointer (some ⟨b1, 0, none⟩)), (3, .pointer (some ⟨b3, 0, none⟩)), (4, .pointer (some ⟨b4, 0, none⟩)), (6, .pointer (some ⟨b5, 0, none⟩)), (21, .int .i64 (i.1 : Nat))], [mapR hm gI gI i.2.1 i.2.2.1, cellsR b4 #[.int .i64 i.2.2.2] 3], []⟩) (I := fun (i : Nat × MI × Nat × Int) => i.1 ≤ 3 ∧ i.2 = ([0, 1, 2].take i.1).foldl (hullE tris t) (L0, c0, f0)) (m := fun (i : Nat × MI × Nat × Int) => 3 - i.1) (i := (k, L1, c1, f1)) ((k + 1, L1, c1, f1)) (μd := []) ⟨by omega, by dsimp only; rw [hull_three hk3, ← hs]; unfold hullE; rw [if_pos h30]⟩ (by dsimp only; omega) (And.intro rfl (And.intro rfl (And.intro rfl (And.intro rfl (And.intro rfl (trivial)))))) (permI [] rfl) (fun _ h => nomatch h) (fun _ h => h)
  ·simp only [decide_eq_false_iff_not] at h22
   refine RJ_exit ?_
   refine QJ_then_exit ?_
   refine QJ_then_exit ?_
   refine QJ_in_exit ?_
   refine QJ_in_normal ?_
   refine QJ_again (μ1 := [_, _, _, _, _]) (μ2 := [_]) (φ1 := []) (permI [2, 3, 0, 0, 1, 1] rfl) (fun _ h => nomatch h) ?_
   exact .inl ⟨rfl, (L1, c1, f1), (by
    have hI3 : (L0, c0, f0) = pre.foldl (hullT tris) ([], 0, (pts.length : Nat)) := hI
    show (L1, c1, f1) = (pre ++ [(n, t)]).foldl (hullT tris) ([], 0, (pts.length : Nat))
    rw [List.foldl_append, ← hI3]
    show (L1, c1, f1) = hullT tris (L0, c0, f0) (n, t)
    rw [hs, List.take_of_length_le (by simp; omega)]
    rfl), rfl, rfl⟩
 ·intro D0 iR hI
  obtain ⟨L9, c9, f9⟩ := iR
  have hI2 : (L9, c9, f9) = hullM tris (pts.length : Nat) := hI
  have hL9 : L9.length ≤ 3000000 := by
   have q1 := hull_len (tris := tris) (reals tris) ([], 0, (pts.length : Nat))
   have q2 := realsF_len tris 0
   have q3 : ((reals tris).foldl (hullT tris) ([], 0, (pts.length : Nat))).1 = L9 := (congrArg Prod.fst hI2).symm
   rw [q3] at q1
   simp only [List.length_nil] at q1
   unfold reals at q1
   omega
  show QJ _ _ _ _ (defR D0 :: mapR hm gI gI L9 c9 :: cellsR b4 #[.int .i64 f9] _ :: _ :: _ :: _) _
  refine QJ_in_normal ?_
  refine QJ_then ?_
  refine CJ_seq ?_
  refine CJ_newRow 3 1 ?_
  refine CJ_reg ?_
  refine LJ_y rfl rfl (YJ_assign rfl) ?_
  refine LJ_nil ?_
  refine QJ_then ?_
  refine CJ_seq ?_
  refine CJ_seq ?_
  refine CJ_reg ?_
  refine LJ_y rfl rfl (YJ_loadL rfl tyi_3 m3 rfl) ?_
  refine LJ_y rfl rfl (YJ_assign rfl) ?_
  refine LJ_nil ?_
  refine QJ_then ?_
  refine CJ_block ?_
  refine CJ_loopF (F := fun (i : Nat × Option Addr × Nat) => ⟨[(3, .pointer (some ⟨b3, 0, none⟩)), (9, .slice i.2.1 i.1 i.2.2), (10, .int .i64 (itN L9 i.1 f9))], [rowR 3 1 i.2.1 i.1 i.2.2 (Iv ((List.range i.1).map fun q => itN L9 q f9))], []⟩) (I := fun (i : Nat × Option Addr × Nat) => i.1 ≤ L9.length) (m := fun (i : Nat × Option Addr × Nat) => L9.length - i.1) (0, none, 0) (μr := [_, _, _, _, _]) (Nat.zero_le _) (And.intro rfl (And.intro rfl (And.intro rfl (trivial)))) (permI [] rfl) (fun _ h => nomatch h) ?_
  rintro ⟨k, A0, c0⟩ hk
  try dsimp only at hk
  show CJ _ _ _ [(3, .pointer (some ⟨b3, 0, none⟩)), (9, .slice A0 k c0), (10, .int .i64 (itN L9 k f9))] (rowR 3 1 A0 k c0 (Iv ((List.range k).map fun q => itN L9 q f9)) :: _ :: _ :: _ :: _ :: _ :: _) _
  refine CJ_seq ?_
  refine CJ_seq ?_
  refine CJ_reg ?_
  refine LJ_y rfl rfl (YJ_move rfl) ?_
  refine LJ_y rfl rfl (YJ_len rfl ulen_55 rfl) ?_
  refine LJ_y rfl rfl (YJ_loadL rfl tyi_70 m4 rfl) ?_
  refine LJ_y rfl rfl (YJ_lenMap (f := gI) (g := gI) rfl umap_70 (MapAt_own (l := L9) (c := c9) m2) rfl) ?_
  refine LJ_y rfl rfl (YJ_bin rfl rfl rfl) ?_
  refine LJ_nil ?_
  refine QJ_then ?_
  refine CJ_cond rfl (fun h54 => ?_) (fun h54 => ?_)
  ·simp only [decide_eq_true_eq] at h54
   refine CJ_skip ?_
   refine QJ_then ?_
   refine CJ_seq ?_
   refine CJ_block ?_
   refine CJ_reg ?_
   refine LJ_y rfl rfl (YJ_move rfl) ?_
   refine LJ_y rfl rfl (YJ_move rfl) ?_
   refine LJ_buildSlice (cs := [_]) rfl rfl elt_55 zer_3 rfl (by decide) (pvs := [(_, _)]) rfl rfl rfl ?_
   intro b6
   refine LJ_append 1 rfl rfl elt_55 zer_3 rfl rfl rfl rfl (Rd_own m0) rfl rfl (by omega) (by omega) (by decide) (range_it L9 k f9) ?_
   intro A61 c61
   show LJ _ _ _ _ _ (_ :: _ :: _ :: _ :: _ :: _ :: _ :: _) _
   refine LJ_y rfl rfl (YJ_assign rfl) ?_
   refine LJ_nil ?_
   refine QJ_in_normal ?_
   refine QJ_then ?_
   refine CJ_reg ?_
   refine LJ_y rfl rfl (YJ_loadL rfl tyi_70 m5 rfl) ?_
   refine LJ_y rfl rfl (YJ_move rfl) ?_
   refine LJ_y rfl rfl (YJ_lookup (f := gI) (g := gI) (k := (itN L9 k f9)) rfl rfl umap_70 keyI zer_3 (MapAt_own (l := L9) (c := c9) m3) rfl) ?_
   refine LJ_val (v := .int .i64 (itN L9 (k + 1) f9)) (getD_map) ?_
   refine LJ_y rfl rfl (YJ_assign rfl) ?_
   refine LJ_nil ?_
   refine QJ_roundF (F := fun (i : Nat × Option Addr × Nat) => ⟨[(3, .pointer (some ⟨b3, 0, none⟩)), (9, .slice i.2.1 i.1 i.2.2), (10, .int .i64 (itN L9 i.1 f9))], [rowR 3 1 i.2.1 i.1 i.2.2 (Iv ((List.range i.1).map fun q => itN L9 q f9))], []⟩) (I := fun (i : Nat × Option Addr × Nat) => i.1 ≤ L9.length) (m := fun (i : Nat × Option Addr × Nat) => L9.length - i.1) (i := (k, A0, c0)) ((k + 1, A61, c61)) (μd := [_]) (by dsimp only; omega) (by dsimp only; omega) (And.intro rfl (And.intro rfl (And.intro rfl (trivial)))) (permI [1, 1, 1, 1, 1, 1] rfl) (fun _ h => nomatch h) (fun _ h => h)
  ·simp only [decide_eq_false_iff_not] at h54
   have hk9 : L9.length = k := by omega
   subst hk9
   refine CJ_exit ?_
   refine QJ_then_exit ?_
   refine QJ_then_exit ?_
   refine QJ_in_exit ?_
   refine QJ_then ?_
   refine CJ_seq ?_
   refine CJ_freezeRowK (n' := L9.length) (xs' := Iv ((List.range L9.length).map fun i => itN L9 i f9)) 0 rfl rfl rfl ?_
   show CJ _ _ _ _ (_ :: _ :: _ :: _ :: _ :: _) _
   refine CJ_reg ?_
   refine LJ_y rfl rfl (YJ_move rfl) ?_
   refine LJ_y rfl rfl (YJ_assign rfl) ?_
   refine LJ_nil ?_
   refine QJ_then ?_
   refine CJ_ret ?_
   refine QJ_finM (.inl rfl) [D0] rfl (μ' := []) (μr := [_, _, _, _]) (φ' := [sliceR 1 A0 L9.length (Iv ((List.range L9.length).map fun i => itN L9 i f9))]) (res_tmp rfl rfl) (permI [] rfl) (AllIn.sub (And.intro m0 trivial)) ?_
   exact ⟨(A0, c0, hullW (L9, c9, f9)), by show hullW (L9, c9, f9) = hullOf tris _; rw [hI2]; rfl, by simp [hullW], rfl, by simp [hullW]⟩
 ·exact fun _ _ _ _ _ h => h.elim
end Go.Proofs.Ytbanlhlggkdanaa
namespace Go.Proofs.Ytbanlhlggkdanaa
open Go.RowKit
theorem ent_63 : Enter Try.prog 63 = true := by kernel_rfl
abbrev A2p (pts : List (Int × Int)) (a b c : Int) : Int := A2 (ptAt pts a).1 (ptAt pts a).2 (ptAt pts b).1 (ptAt pts b).2 (ptAt pts c).1 (ptAt pts c).2
def sumA (pts : List (Int × Int)) (l : List (Nat × Tr)) : Int := (l.map fun x => A2p pts x.2.v0 x.2.v1 x.2.v2).sum
def outT (pts : List (Int × Int)) (l : List Int) (k : Nat) : Int := A2p pts (l.getD 0 0) (l.getD k 0) (l.getD ((k + 1) % l.length) 0)
def outA (pts : List (Int × Int)) (l : List Int) (k : Nat) : Int := ((List.range k).map (outT pts l)).sum
theorem sumA_app (pts : List (Int × Int)) (l : List (Nat × Tr)) (x : Nat × Tr) : sumA pts (l ++ [x]) = sumA pts l + A2p pts x.2.v0 x.2.v1 x.2.v2 := by
 unfold sumA
 rw [List.map_append, List.sum_append]
 simp
theorem outA_succ (pts : List (Int × Int)) (l : List Int) (k : Nat) : outA pts l (k + 1) = outA pts l k + outT pts l k := by
 unfold outA
 rw [List.range_succ, List.map_append, List.sum_append]
 simp
theorem dl_sum {s : Int} {n : Nat} (h : s.natAbs ≤ n * 170141183460469231731687303715884105728) (hn : n ≤ 10000000) : dl s ≤ 3 := dl_le (by
 have e : BB ^ 3 = 6277101735386680763835789423207666416102355444464034512896 := by decide
 rw [e]
 omega)
theorem A2_abs {a1 a2 e1 e2 c1 c2 : Int} (ha : P2 a1 a2) (hb : P2 e1 e2) (hc : P2 c1 c2) : (A2 a1 a2 e1 e2 c1 c2).natAbs ≤ 170141183460469231731687303715884105728 := by
 have := A2_r ha hb hc
 unfold R128 at this
 omega
theorem hullOf_len (tris : List Tr) (n0 : Int) : (hullOf tris n0).length ≤ 3 * tris.length := by
 have q1 := hull_len (tris := tris) (reals tris) ([], 0, n0)
 have q2 := realsF_len tris 0
 have q3 : (hullOf tris n0).length = ((reals tris).foldl (hullT tris) ([], 0, n0)).1.length := by
  unfold hullOf hullW hullM
  rw [List.length_map, List.length_range]
 rw [q3]
 simp only [List.length_nil] at q1
 unfold reals at q1 ⊢
 omega
theorem tmn {k n : Nat} (h : 0 < n) : ((k : Int) + 1).tmod ((n : Nat) : Int) = (((k + 1) % n : Nat) : Int) := by
 rw [Int.tmod_eq_emod_of_nonneg (by omega)]
 exact (Int.natCast_emod (k + 1) n).symm
theorem getD_of {l : List Int} {k : Nat} {a : Int} (h : l[k]? = some a) : l.getD k 0 = a := by rw [List.getD_eq_getElem?_getD, h]; rfl
theorem Iv_at {l : List Int} {k : Nat} {a : Int} (h : l[k]? = some a) : (Iv l)[k]? = some (.int .i64 a) := by rw [Iv, List.getElem?_map, h]; rfl
set_option maxRecDepth 100000 in
set_option maxHeartbeats 32000000 in
theorem area_c {B : Nat} {h : Mh} {pts : List (Int × Int)} {tris : List Tr} {l9 : List Int} (hP : ∀ j, j < pts.length → P2 (pts.getD j (0, 0)).1 (pts.getD j (0, 0)).2) (hT : okTris pts tris) (hlen : tris.length ≤ 1000000) (hl9 : hullOf tris (pts.length : Nat) = l9) (hlv : ∀ v, v ∈ l9 → 0 ≤ v ∧ v < pts.length) (hcv : ∀ (i : Nat) (a b c : Int), l9[i]? = some a → l9[(i + 1) % l9.length]? = some b → c ∈ l9 → 0 ≤ A2p pts a b c) (hsum : sumA pts (reals tris) = outA pts l9 l9.length) : Tri Try.prog 63 [.pointer (some ⟨B, 0, none⟩)] [] (meshFs B h pts tris) (Ret0 (.bool true)) := by
 refine Tri_ofM (N := 133) Try.func63 rfl ent_63 rfl rfl ?_
 intro w0 S0 T0
 show CJ _ _ _ [(0, _)] _ _
 have hlen9 : tris.length ≤ 1073741824 := by omega
 have hl9n : l9.length ≤ 3000000 := by
  have := hullOf_len tris (pts.length : Nat)
  rw [hl9] at this
  omega
 have hrl : (reals tris).length ≤ tris.length := realsF_len tris 0
 refine CJ_seq ?_
 refine CJ_reg ?_
 refine LJ_box (cs := #[_]) rfl rfl rfl rfl ?_
 intro b1
 refine LJ_y rfl rfl (YJ_assign rfl) ?_
 refine LJ_nil ?_
 refine QJ_then ?_
 refine CJ_seq ?_
 refine CJ_reg ?_
 refine LJ_callX rfl rfl rfl rfl rfl (nof_c (z := 0) (by unfold I64; decide)) (AllIn.sub (by first | exact trivial | exact And.intro (by repeat first | exact .head _ | apply List.Mem.tail) trivial | exact And.intro (by repeat first | exact .head _ | apply List.Mem.tail) (And.intro (by repeat first | exact .head _ | apply List.Mem.tail) trivial))) ?_
 rintro ⟨A16, k16⟩ hcap16
 dsimp only at hcap16
 dsimp only [List.cons_append, List.nil_append]
 refine LJ_callX rfl rfl rfl rfl rfl (nof_c (z := 0) (by unfold I64; decide)) (AllIn.sub (by first | exact trivial | exact And.intro (by repeat first | exact .head _ | apply List.Mem.tail) trivial | exact And.intro (by repeat first | exact .head _ | apply List.Mem.tail) (And.intro (by repeat first | exact .head _ | apply List.Mem.tail) trivial))) ?_
 rintro ⟨A17, k17⟩ hcap17
 dsimp only at hcap17
 dsimp only [List.cons_append, List.nil_append]
 refine LJ_alloc (cs := #[_, _]) rfl rfl zer_100 rfl ?_
 intro b2
 refine LJ_alloc (cs := #[_, _]) rfl rfl zer_100 rfl ?_
 intro b3
 refine LJ_store (cs' := #[_, _]) (μ' := [_, _, _]) 1 rfl rfl rfl rfl tyi_100 rfl (Nat.le_of_ble_eq_true rfl) rfl rfl rfl ?_
 refine LJ_store (cs' := #[_, _]) (μ' := [_, _, _]) 0 rfl rfl rfl rfl tyi_100 rfl (Nat.le_of_ble_eq_true rfl) rfl rfl rfl ?_
 refine LJ_nil ?_
 refine QJ_then ?_
 refine CJ_seq ?_
 refine CJ_seq ?_
 refine CJ_reg ?_
 refine LJ_y rfl rfl (YJ_loadL rfl tyi_28 m2 rfl) ?_
 refine LJ_callX rfl rfl rfl rfl rfl (all_c (B := B)) (fun _ h => nomatch h) ?_
 intro bA _
 refine LJ_nil ?_
 refine QJ_then ?_
 refine CJ_block ?_
 refine CJ_rangeFunc (μr := [_]) rfl (all_it (h := h) (pts := pts) (tris := tris) hlen9) (all_sub (fun r h => .tail _ (.tail _ h))) (fun _ => rfl) (by kernel_rfl) (L := { ι := Int × Option Addr × Nat, I := fun pre s => s.1 = sumA pts pre ∧ s.1.natAbs ≤ pre.length * 170141183460469231731687303715884105728 ∧ dl s.1 ≤ s.2.2, F := fun _ s => ([cellsR b2 #[.bool (decide (s.1 < 0)), .slice s.2.1 (dl s.1) s.2.2] 100, cellsR b1 #[.pointer (some ⟨B, 0, none⟩)] 28], [numF s.1 s.2.1]), κ := Unit, Ix := fun _ _ _ => False, Fx := fun _ _ => ([], []) }) (0, A16, k16) ⟨rfl, by simp, hcap16⟩ (permI [1, 1] rfl) (AllIn.sub (And.intro m2 trivial)) ?_ ?_ ?_
 ·intro lR DR fnR tmpsR WR SR TR pre xR iR hpre hI
  obtain ⟨n, t⟩ := xR
  obtain ⟨hti, htr, hto⟩ := okAt hT hpre
  obtain ⟨⟨hv0, hw0⟩, ⟨hv1, hw1⟩, ⟨hv2, hw2⟩⟩ := hto
  obtain ⟨s0, A0, c0⟩ := iR
  obtain ⟨hs0, hs1, hs2⟩ := hI
  dsimp only at hs0 hs1 hs2
  have hpl := hpre.length_le
  rw [List.length_append, List.length_singleton] at hpl
  have hab : (A2p pts t.v0 t.v1 t.v2).natAbs ≤ 170141183460469231731687303715884105728 := A2_abs (hP (t.v0).toNat (by omega)) (hP (t.v1).toNat (by omega)) (hP (t.v2).toNat (by omega))
  show RJ _ _ _ _ _ ((21, _) :: (20, _) :: _) (objR lR _ :: defR DR :: cellsR b2 #[.bool (decide (s0 < 0)), .slice A0 (dl s0) c0] 100 :: _ :: []) ([numF s0 A0] ++ _)
  refine RJ_reg (by kernel_rfl) ?_
  refine LJ_alloc (cs := #[_, _, _, _, _, _, _, _, _]) rfl rfl zer_37 rfl ?_
  intro b4
  refine LJ_store (cs' := #[_, _, _, _, _, _, _, _, _]) (μ' := [_, _, _, _, _]) 0 rfl rfl rfl rfl tyi_37 rfl (Nat.le_of_ble_eq_true rfl) rfl (wr_all rfl) rfl ?_
  refine LJ_nil ?_
  refine QJ_begin (μr := [_, _, _, _]) (permI [1] rfl) ?_
  refine RJ_block ?_
  refine RJ_seq ?_
  refine RJ_regDA mix (by kernel_rfl) (fun _ _ _ _ _ h => h) _ _ (fun _ h => h) (fun _ h => h) (by kernel_rfl) [⟨27, 7, 23, #[.int .i64 0, .int .i64 0]⟩, ⟨28, 8, 23, #[.int .i64 0, .int .i64 0]⟩, ⟨29, 9, 23, #[.int .i64 0, .int .i64 0]⟩] 30 rfl (And.intro ⟨_, _, _, _, rfl, zer_23, rfl⟩ (And.intro ⟨_, _, _, _, rfl, zer_23, rfl⟩ (And.intro ⟨_, _, _, _, rfl, zer_23, rfl⟩ (trivial)))) rfl rfl ?_
  refine AA_y 0 rfl (by kernel_rfl) rfl rfl rfl (YJ_loadL rfl tyi_28 m4 rfl) ?_
  refine AA_y 1 rfl (by kernel_rfl) rfl rfl rfl (YJ_nilCheck rfl) ?_
  refine AA_y 2 rfl (by kernel_rfl) rfl rfl rfl (YJ_fieldOwn rfl fld_57_0 rfl) ?_
  refine AA_y 3 rfl (by kernel_rfl) rfl rfl rfl (YJ_loadFactP (A := some ⟨B, 0, none⟩) (j := 0) rfl rfl tyi_26 m4 rfl) ?_
  refine AA_y 4 rfl (by kernel_rfl) rfl rfl rfl (YJ_fieldOwn rfl fld_37_0 rfl) ?_
  refine AA_y 5 rfl (by kernel_rfl) rfl rfl rfl (YJ_ixArr rfl rfl arrt_34 (by omega) (by omega) rfl) ?_
  refine AA_y 6 rfl (by kernel_rfl) rfl rfl rfl (YJ_loadL rfl tyi_3 m1 rfl) ?_
  refine AA_y 7 rfl (by kernel_rfl) rfl rfl rfl (YJ_ixFact rfl rfl elt_26 m5 (by decide) (by omega) (by omega) (by omega)) ?_
  refine AA_y 8 rfl (by kernel_rfl) rfl rfl rfl (YJ_loadFactN (vs := [_, _]) (xs := ptCells pts) rfl tyi_23 m5 (ptCells_get (i := (t.v0).toNat) (by omega)) rfl) ?_
  refine AA_y 9 rfl (by kernel_rfl) rfl rfl rfl (YJ_loadL rfl tyi_28 m4 rfl) ?_
  refine AA_y 10 rfl (by kernel_rfl) rfl rfl rfl (YJ_nilCheck rfl) ?_
  refine AA_y 11 rfl (by kernel_rfl) rfl rfl rfl (YJ_fieldOwn rfl fld_57_0 rfl) ?_
  refine AA_y 12 rfl (by kernel_rfl) rfl rfl rfl (YJ_loadFactP (A := some ⟨B, 0, none⟩) (j := 0) rfl rfl tyi_26 m4 rfl) ?_
  refine AA_y 13 rfl (by kernel_rfl) rfl rfl rfl (YJ_fieldOwn rfl fld_37_0 rfl) ?_
  refine AA_y 14 rfl (by kernel_rfl) rfl rfl rfl (YJ_ixArr rfl rfl arrt_34 (by omega) (by omega) rfl) ?_
  refine AA_y 15 rfl (by kernel_rfl) rfl rfl rfl (YJ_loadL rfl tyi_3 m1 rfl) ?_
  refine AA_y 16 rfl (by kernel_rfl) rfl rfl rfl (YJ_ixFact rfl rfl elt_26 m5 (by decide) (by omega) (by omega) (by omega)) ?_
  refine AA_y 17 rfl (by kernel_rfl) rfl rfl rfl (YJ_loadFactN (vs := [_, _]) (xs := ptCells pts) rfl tyi_23 m5 (ptCells_get (i := (t.v1).toNat) (by omega)) rfl) ?_
  refine AA_y 18 rfl (by kernel_rfl) rfl rfl rfl (YJ_loadL rfl tyi_28 m4 rfl) ?_
  refine AA_y 19 rfl (by kernel_rfl) rfl rfl rfl (YJ_nilCheck rfl) ?_
  refine AA_y 20 rfl (by kernel_rfl) rfl rfl rfl (YJ_fieldOwn rfl fld_57_0 rfl) ?_
  refine AA_y 21 rfl (by kernel_rfl) rfl rfl rfl (YJ_loadFactP (A := some ⟨B, 0, none⟩) (j := 0) rfl rfl tyi_26 m4 rfl) ?_
  refine AA_y 22 rfl (by kernel_rfl) rfl rfl rfl (YJ_fieldOwn rfl fld_37_0 rfl) ?_
  refine AA_y 23 rfl (by kernel_rfl) rfl rfl rfl (YJ_ixArr rfl rfl arrt_34 (by omega) (by omega) rfl) ?_
  refine AA_y 24 rfl (by kernel_rfl) rfl rfl rfl (YJ_loadL rfl tyi_3 m1 rfl) ?_
  refine AA_y 25 rfl (by kernel_rfl) rfl rfl rfl (YJ_ixFact rfl rfl elt_26 m5 (by decide) (by omega) (by omega) (by omega)) ?_
  refine AA_y 26 rfl (by kernel_rfl) rfl rfl rfl (YJ_loadFactN (vs := [_, _]) (xs := ptCells pts) rfl tyi_23 m5 (ptCells_get (i := (t.v2).toNat) (by omega)) rfl) ?_
  refine AA_end (by kernel_rfl) rfl ?_
  intro bs hbs
  obtain ⟨b5, b6, b7, rfl⟩ := len_3 hbs
  clear hbs
  show AJ _ _ _ _ _ _ _ ((7, .pointer (some ⟨b5, 0, none⟩)) :: (8, .pointer (some ⟨b6, 0, none⟩)) :: (9, .pointer (some ⟨b7, 0, none⟩)) :: _) (cellsR b5 _ _ :: cellsR b6 _ _ :: cellsR b7 _ _ :: _) _
  refine AJ_store (cs' := #[_, _]) (μ' := [_, _, _, _, _, _, _, _]) 30 0 rfl (by kernel_rfl) rfl rfl rfl rfl tyi_23 rfl (Nat.le_of_ble_eq_true rfl) rfl rfl rfl (fun _ => AllIn.sub (And.intro m3 (And.intro m4 (And.intro m5 (And.intro m6 (And.intro m7 (trivial))))))) ?_
  refine AJ_store (cs' := #[_, _]) (μ' := [_, _, _, _, _, _, _, _]) 31 1 rfl (by kernel_rfl) rfl rfl rfl rfl tyi_23 rfl (Nat.le_of_ble_eq_true rfl) rfl rfl rfl (fun _ => AllIn.sub (And.intro m3 (And.intro m4 (And.intro m5 (And.intro m6 (And.intro m7 (trivial))))))) ?_
  refine AJ_store (cs' := #[_, _]) (μ' := [_, _, _, _, _, _, _, _]) 32 2 rfl (by kernel_rfl) rfl rfl rfl rfl tyi_23 rfl (Nat.le_of_ble_eq_true rfl) rfl rfl rfl (fun _ => AllIn.sub (And.intro m3 (And.intro m4 (And.intro m5 (And.intro m6 (And.intro m7 (trivial))))))) ?_
  refine AJ_done (by kernel_rfl) ?_
  refine QJ_thenR (by repeat with_reducible first | exact no_round | exact no_begin | apply no_then | apply no_block) ?_
  refine RJ_regM mix (by kernel_rfl) (fun _ _ _ _ _ h => h) (by kernel_rfl) [[], [], [], [], [], [], [6], []] ?_
  refine BJ_l 0 6 rfl (by kernel_rfl) (by kernel_rfl) (by kernel_rfl) rfl (by kernel_rfl) m6 rfl rfl (YJ_loadN (vs := [_, _]) rfl tyi_100 m0 rfl rfl) ?_
  refine BJ_l 1 0 rfl (by kernel_rfl) (by kernel_rfl) (by kernel_rfl) rfl (by kernel_rfl) m0 rfl rfl (YJ_loadN (vs := [_, _]) rfl tyi_23 m0 rfl rfl) ?_
  refine BJ_l 2 1 rfl (by kernel_rfl) (by kernel_rfl) (by kernel_rfl) rfl (by kernel_rfl) m1 rfl rfl (YJ_loadN (vs := [_, _]) rfl tyi_23 m0 rfl rfl) ?_
  refine BJ_l 3 2 rfl (by kernel_rfl) (by kernel_rfl) (by kernel_rfl) rfl (by kernel_rfl) m2 rfl rfl (YJ_loadN (vs := [_, _]) rfl tyi_23 m0 rfl rfl) ?_
  refine BJ_callX 4 rfl (by kernel_rfl) rfl rfl rfl rfl rfl (And.intro (.inr m0) (And.intro (.inr m1) (And.intro (.inr m2) (And.intro (.inr m3) (And.intro (.inr m4) (And.intro (.inr m5) (And.intro (.inr m6) (And.intro (.inr m7) (trivial))))))))) (area2_c (hP (t.v0).toNat (by omega)) (hP (t.v1).toNat (by omega)) (hP (t.v2).toNat (by omega))) (AllIn.sub (by first | exact trivial | exact And.intro (by repeat first | exact .head _ | apply List.Mem.tail) trivial | exact And.intro (by repeat first | exact .head _ | apply List.Mem.tail) (And.intro (by repeat first | exact .head _ | apply List.Mem.tail) trivial))) ?_
  rintro ⟨A53, k53⟩ hcap53
  dsimp only at hcap53
  dsimp only [List.cons_append, List.nil_append]
  refine BJ_callX 5 rfl (by kernel_rfl) rfl rfl rfl rfl rfl (And.intro (.inr m0) (And.intro (.inr m1) (And.intro (.inr m2) (And.intro (.inr m3) (And.intro (.inr m4) (And.intro (.inr m5) (And.intro (.inr m6) (And.intro (.inr m7) (trivial))))))))) (nadd_c (a := s0) (b := A2p pts t.v0 t.v1 t.v2) (by exact Nat.le_trans (dl_sum (n := pre.length) hs1 (by omega)) (by decide)) (by exact Nat.le_trans (dl_sum (n := 1) (by omega) (by omega)) (by decide)) hs2 hcap53) (AllIn.sub (And.intro m1 (And.intro m0 trivial))) ?_
  rintro ⟨A54, k54⟩ hcap54
  dsimp only at hcap54
  dsimp only [List.cons_append, List.nil_append]
  refine BJ_store (cs' := #[_, _]) (μ' := [_, _, _, _, _, _, _, _]) 6 6 rfl (by kernel_rfl) rfl rfl rfl rfl tyi_100 rfl (Nat.le_of_ble_eq_true rfl) rfl rfl rfl (And.intro (.inr m0) (And.intro (.inr m1) (And.intro (.inr m2) (And.intro (.inr m3) (And.intro (.inr m4) (And.intro (.inr m5) (And.intro (.inl rfl) (And.intro (.inr m7) (trivial))))))))) ?_
  refine BJ_done (by kernel_rfl) ?_
  refine QJ_in_normal ?_
  refine QJ_again (μ1 := [_, _, _]) (μ2 := [_, _, _, _]) (φ1 := [numF (s0 + A2p pts t.v0 t.v1 t.v2) A54]) (permI [3, 4, 4, 4] rfl) (AllIn.sub (And.intro m0 trivial)) ?_
  exact .inl ⟨rfl, (s0 + A2p pts t.v0 t.v1 t.v2, A54, k54), ⟨by dsimp only; rw [sumA_app, ← hs0], by dsimp only; rw [List.length_append, List.length_singleton]; omega, hcap54⟩, rfl, rfl⟩
 ·intro D0 iR hI
  obtain ⟨s9, A9, c9⟩ := iR
  obtain ⟨hs0, hs1, hs2⟩ := hI
  dsimp only at hs0 hs1 hs2
  show QJ _ _ _ _ (defR D0 :: cellsR b2 #[.bool (decide (s9 < 0)), .slice A9 (dl s9) c9] 100 :: _ :: _) _
  refine QJ_in_normal ?_
  refine QJ_then ?_
  refine CJ_seq ?_
  refine CJ_reg ?_
  refine LJ_y rfl rfl (YJ_loadL rfl tyi_28 m2 rfl) ?_
  refine LJ_callX rfl rfl rfl rfl rfl (hull_c (h := h) (pts := pts) (tris := tris) hlen) (fun r h => .tail _ (.tail _ (.tail _ (.tail _ h)))) ?_
  rintro ⟨Ah, ch, lh⟩ hlh
  dsimp only at hlh
  rw [hl9] at hlh
  replace hlh := hlh.symm
  subst hlh
  dsimp only [List.cons_append, List.nil_append]
  refine LJ_y rfl rfl (YJ_assign rfl) ?_
  refine LJ_nil ?_
  refine QJ_then ?_
  refine CJ_seq ?_
  refine CJ_seq ?_
  refine CJ_reg ?_
  refine LJ_y rfl rfl (YJ_move rfl) ?_
  refine LJ_y rfl rfl (YJ_len rfl ulen_55 rfl) ?_
  refine LJ_y rfl rfl (YJ_move rfl) ?_
  refine LJ_nil ?_
  refine QJ_then ?_
  refine CJ_block ?_
  refine CJ_loopF (F := fun (i : Nat × Int × Option Addr × Nat) => ⟨[(1, .pointer (some ⟨b1, 0, none⟩)), (3, .pointer (some ⟨b2, 0, none⟩)), (4, .pointer (some ⟨b3, 0, none⟩)), (10, .slice Ah l9.length ch), (57, .slice Ah l9.length ch), (58, .int .i64 l9.length), (59, .int .i64 (i.1 : Nat))], [cellsR b3 #[.bool (decide (i.2.1 < 0)), .slice i.2.2.1 (dl i.2.1) i.2.2.2] 100], [numF i.2.1 i.2.2.1]⟩) (I := fun (i : Nat × Int × Option Addr × Nat) => i.1 ≤ l9.length ∧ i.2.1 = outA pts l9 i.1 ∧ i.2.1.natAbs ≤ i.1 * 170141183460469231731687303715884105728 ∧ dl i.2.1 ≤ i.2.2.2) (m := fun (i : Nat × Int × Option Addr × Nat) => l9.length - i.1) (0, 0, A17, k17) (μr := [_, _, _]) ⟨Nat.zero_le _, rfl, by simp, hcap17⟩ (And.intro rfl (And.intro rfl (And.intro rfl (And.intro rfl (And.intro rfl (And.intro rfl (And.intro rfl (trivial)))))))) (permI [3] rfl) (AllIn.sub (And.intro m3 trivial)) ?_
  rintro ⟨k, o, A4, c4⟩ ⟨hk, ho0, ho1, ho2⟩
  try dsimp only at hk
  try dsimp only at ho0
  try dsimp only at ho1
  try dsimp only at ho2
  show CJ _ _ _ [(1, .pointer (some ⟨b1, 0, none⟩)), (3, .pointer (some ⟨b2, 0, none⟩)), (4, .pointer (some ⟨b3, 0, none⟩)), (10, .slice Ah l9.length ch), (57, .slice Ah l9.length ch), (58, .int .i64 l9.length), (59, .int .i64 (k : Nat))] (cellsR b3 #[.bool (decide (o < 0)), .slice A4 (dl o) c4] 100 :: _ :: _ :: _ :: _) ([numF o A4] ++ _)
  refine CJ_seq ?_
  refine CJ_reg ?_
  refine LJ_y rfl rfl (YJ_bin rfl rfl rfl) ?_
  refine LJ_nil ?_
  refine QJ_then ?_
  refine CJ_seq ?_
  refine CJ_cond rfl (fun h60 => ?_) (fun h60 => ?_)
  ·simp only [decide_eq_true_eq] at h60
   have hn0 : 0 < l9.length := by omega
   have hmod := Nat.mod_lt (k + 1) hn0
   obtain ⟨a, ha⟩ := get_at h60
   obtain ⟨b, hb⟩ : ∃ b, l9[(k + 1) % l9.length]? = some b := ⟨_, List.getElem?_eq_getElem hmod⟩
   obtain ⟨z, hz⟩ : ∃ z, l9[0]? = some z := ⟨_, List.getElem?_eq_getElem hn0⟩
   obtain ⟨ha1, ha2⟩ := hlv a (List.mem_of_getElem? ha)
   obtain ⟨hb1, hb2⟩ := hlv b (List.mem_of_getElem? hb)
   obtain ⟨hz1, hz2⟩ := hlv z (List.mem_of_getElem? hz)
   have hab : (A2p pts z a b).natAbs ≤ 170141183460469231731687303715884105728 := A2_abs (hP (z).toNat (by omega)) (hP (a).toNat (by omega)) (hP (b).toNat (by omega))
   refine CJ_skip ?_
   refine QJ_then ?_
   refine CJ_seq ?_
   refine CJ_block ?_
   refine CJ_seq ?_
   refine CJ_reg ?_
   refine LJ_y rfl rfl (YJ_move rfl) ?_
   refine LJ_y rfl rfl (YJ_ixFact (n' := l9.length) rfl rfl elt_55 m1 (by decide) (by omega) (by omega) (by omega)) ?_
   refine LJ_y rfl rfl (YJ_loadFactP (A := Ah) (j := k) rfl (congrArg _ (by omega)) tyi_3 m1 (Iv_at ha)) ?_
   refine LJ_y rfl rfl (YJ_assign rfl) ?_
   refine LJ_y rfl rfl (YJ_assign rfl) ?_
   refine LJ_nil ?_
   refine QJ_then ?_
   refine CJ_seq ?_
   refine CJ_reg ?_
   refine LJ_y rfl rfl (YJ_move rfl) ?_
   refine LJ_y rfl rfl (YJ_move rfl) ?_
   refine LJ_y rfl rfl (YJ_bin rfl rfl (iop_add (by omega))) ?_
   refine LJ_y rfl rfl (YJ_move rfl) ?_
   refine LJ_y rfl rfl (YJ_len rfl ulen_55 rfl) ?_
   refine LJ_y rfl rfl (YJ_rem rfl rfl (by first | decide | omega)) ?_
   refine LJ_val (v := .int .i64 (((k + 1) % l9.length : Nat) : Int)) (congrArg (Value.int .i64) (tmn (by omega))) ?_
   refine LJ_y rfl rfl (YJ_ixFact (n' := l9.length) rfl rfl elt_55 m1 (by decide) (by omega) (by omega) (by omega)) ?_
   refine LJ_y rfl rfl (YJ_loadFactP (A := Ah) (j := ((k + 1) % l9.length)) rfl (congrArg _ (by omega)) tyi_3 m1 (Iv_at hb)) ?_
   refine LJ_y rfl rfl (YJ_assign rfl) ?_
   refine LJ_nil ?_
   refine QJ_then ?_
   refine CJ_seq ?_
   refine CJ_seq ?_
   refine CJ_reg ?_
   refine LJ_y rfl rfl (YJ_move rfl) ?_
   refine LJ_y rfl rfl (YJ_len rfl ulen_55 rfl) ?_
   refine LJ_y rfl rfl (YJ_move rfl) ?_
   refine LJ_nil ?_
   refine QJ_then ?_
   refine CJ_block ?_
   refine CJ_loopF (F := fun (i : Nat) => ⟨[(1, .pointer (some ⟨b1, 0, none⟩)), (3, .pointer (some ⟨b2, 0, none⟩)), (4, .pointer (some ⟨b3, 0, none⟩)), (10, .slice Ah l9.length ch), (57, .slice Ah l9.length ch), (58, .int .i64 l9.length), (59, .int .i64 (k : Nat)), (11, .int .i64 (k : Nat)), (12, .int .i64 a), (13, .int .i64 b), (72, .slice Ah l9.length ch), (73, .int .i64 l9.length), (74, .int .i64 (i : Nat))], [], []⟩) (I := fun (i : Nat) => i ≤ l9.length) (m := fun (i : Nat) => l9.length - i) 0 (μr := [_, _, _, _]) (Nat.zero_le _) (And.intro rfl (And.intro rfl (And.intro rfl (And.intro rfl (And.intro rfl (And.intro rfl (And.intro rfl (And.intro rfl (And.intro rfl (And.intro rfl (And.intro rfl (And.intro rfl (And.intro rfl (trivial)))))))))))))) (permI [] rfl) (fun _ h => nomatch h) ?_
   rintro j hj
   try dsimp only at hj
   show CJ _ _ _ [(1, .pointer (some ⟨b1, 0, none⟩)), (3, .pointer (some ⟨b2, 0, none⟩)), (4, .pointer (some ⟨b3, 0, none⟩)), (10, .slice Ah l9.length ch), (57, .slice Ah l9.length ch), (58, .int .i64 l9.length), (59, .int .i64 (k : Nat)), (11, .int .i64 (k : Nat)), (12, .int .i64 a), (13, .int .i64 b), (72, .slice Ah l9.length ch), (73, .int .i64 l9.length), (74, .int .i64 (j : Nat))] (_ :: _ :: _ :: _ :: _) _
   refine CJ_seq ?_
   refine CJ_reg ?_
   refine LJ_y rfl rfl (YJ_bin rfl rfl rfl) ?_
   refine LJ_nil ?_
   refine QJ_then ?_
   refine CJ_seq ?_
   refine CJ_cond rfl (fun h75 => ?_) (fun h75 => ?_)
   ·simp only [decide_eq_true_eq] at h75
    obtain ⟨c, hc⟩ := get_at h75
    obtain ⟨hc1, hc2⟩ := hlv c (List.mem_of_getElem? hc)
    have hcv9 := hcv k a b c ha hb (List.mem_of_getElem? hc)
    refine CJ_skip ?_
    refine QJ_then ?_
    refine CJ_seq ?_
    refine CJ_block ?_
    refine CJ_seq ?_
    refine CJ_reg ?_
    refine LJ_y rfl rfl (YJ_ixFact (n' := l9.length) rfl rfl elt_55 m1 (by decide) (by omega) (by omega) (by omega)) ?_
    refine LJ_y rfl rfl (YJ_loadFactP (A := Ah) (j := j) rfl (congrArg _ (by omega)) tyi_3 m1 (Iv_at hc)) ?_
    refine LJ_y rfl rfl (YJ_assign rfl) ?_
    refine LJ_nil ?_
    refine QJ_then ?_
    refine CJ_seq ?_
    refine CJ_regD mix (by kernel_rfl) (fun _ _ _ _ _ h => h) _ _ (fun _ h => h) (fun _ h => h) ?_
    refine AJ_y 0 rfl (by kernel_rfl) (by kernel_rfl) rfl rfl (YJ_loadL rfl tyi_28 m3 rfl) ?_
    refine AJ_y 1 rfl (by kernel_rfl) (by kernel_rfl) rfl rfl (YJ_nilCheck rfl) ?_
    refine AJ_y 2 rfl (by kernel_rfl) (by kernel_rfl) rfl rfl (YJ_fieldOwn rfl fld_57_0 rfl) ?_
    refine AJ_y 3 rfl (by kernel_rfl) (by kernel_rfl) rfl rfl (YJ_loadFactP (A := some ⟨B, 0, none⟩) (j := 0) rfl rfl tyi_26 m6 rfl) ?_
    refine AJ_y 4 rfl (by kernel_rfl) (by kernel_rfl) rfl rfl (YJ_move rfl) ?_
    refine AJ_y 5 rfl (by kernel_rfl) (by kernel_rfl) rfl rfl (YJ_ixFact rfl rfl elt_26 m7 (by decide) (by omega) (by omega) (by omega)) ?_
    refine AJ_y 6 rfl (by kernel_rfl) (by kernel_rfl) rfl rfl (YJ_loadFactN (vs := [_, _]) (xs := ptCells pts) rfl tyi_23 m7 (ptCells_get (i := (a).toNat) (by omega)) rfl) ?_
    refine AJ_y 7 rfl (by kernel_rfl) (by kernel_rfl) rfl rfl (YJ_loadL rfl tyi_28 m3 rfl) ?_
    refine AJ_y 8 rfl (by kernel_rfl) (by kernel_rfl) rfl rfl (YJ_nilCheck rfl) ?_
    refine AJ_y 9 rfl (by kernel_rfl) (by kernel_rfl) rfl rfl (YJ_fieldOwn rfl fld_57_0 rfl) ?_
    refine AJ_y 10 rfl (by kernel_rfl) (by kernel_rfl) rfl rfl (YJ_loadFactP (A := some ⟨B, 0, none⟩) (j := 0) rfl rfl tyi_26 m6 rfl) ?_
    refine AJ_y 11 rfl (by kernel_rfl) (by kernel_rfl) rfl rfl (YJ_move rfl) ?_
    refine AJ_y 12 rfl (by kernel_rfl) (by kernel_rfl) rfl rfl (YJ_ixFact rfl rfl elt_26 m7 (by decide) (by omega) (by omega) (by omega)) ?_
    refine AJ_y 13 rfl (by kernel_rfl) (by kernel_rfl) rfl rfl (YJ_loadFactN (vs := [_, _]) (xs := ptCells pts) rfl tyi_23 m7 (ptCells_get (i := (b).toNat) (by omega)) rfl) ?_
    refine AJ_y 14 rfl (by kernel_rfl) (by kernel_rfl) rfl rfl (YJ_loadL rfl tyi_28 m3 rfl) ?_
    refine AJ_y 15 rfl (by kernel_rfl) (by kernel_rfl) rfl rfl (YJ_nilCheck rfl) ?_
    refine AJ_y 16 rfl (by kernel_rfl) (by kernel_rfl) rfl rfl (YJ_fieldOwn rfl fld_57_0 rfl) ?_
    refine AJ_y 17 rfl (by kernel_rfl) (by kernel_rfl) rfl rfl (YJ_loadFactP (A := some ⟨B, 0, none⟩) (j := 0) rfl rfl tyi_26 m6 rfl) ?_
    refine AJ_y 18 rfl (by kernel_rfl) (by kernel_rfl) rfl rfl (YJ_move rfl) ?_
    refine AJ_y 19 rfl (by kernel_rfl) (by kernel_rfl) rfl rfl (YJ_ixFact rfl rfl elt_26 m7 (by decide) (by omega) (by omega) (by omega)) ?_
    refine AJ_y 20 rfl (by kernel_rfl) (by kernel_rfl) rfl rfl (YJ_loadFactN (vs := [_, _]) (xs := ptCells pts) rfl tyi_23 m7 (ptCells_get (i := (c).toNat) (by omega)) rfl) ?_
    refine AJ_call0 21 rfl (by kernel_rfl) rfl rfl rfl rfl rfl (orient_c (hP (a).toNat (by omega)) (hP (b).toNat (by omega)) (hP (c).toNat (by omega))) (fun _ h => nomatch h) ?_
    refine AJ_y 22 rfl (by kernel_rfl) (by kernel_rfl) rfl rfl (YJ_bin rfl rfl rfl) ?_
    refine AJ_done (by kernel_rfl) ?_
    refine QJ_then ?_
    refine CJ_cond rfl (fun h100 => ?_) (fun h100 => ?_)
    ·simp only [decide_eq_true_eq] at h100
     have q9 : sgn (A2p pts a b c) < 0 := h100
     exact absurd hcv9 (by have := sgn_cases (A2p pts a b c); omega)
    ·simp only [decide_eq_false_iff_not] at h100
     refine CJ_skip ?_
     refine QJ_in_normal ?_
     refine QJ_then ?_
     refine CJ_reg ?_
     refine LJ_y rfl rfl (YJ_bin rfl rfl (iop_add (by omega))) ?_
     refine LJ_y rfl rfl (YJ_move rfl) ?_
     refine LJ_nil ?_
     refine QJ_roundF (F := fun (i : Nat) => ⟨[(1, .pointer (some ⟨b1, 0, none⟩)), (3, .pointer (some ⟨b2, 0, none⟩)), (4, .pointer (some ⟨b3, 0, none⟩)), (10, .slice Ah l9.length ch), (57, .slice Ah l9.length ch), (58, .int .i64 l9.length), (59, .int .i64 (k : Nat)), (11, .int .i64 (k : Nat)), (12, .int .i64 a), (13, .int .i64 b), (72, .slice Ah l9.length ch), (73, .int .i64 l9.length), (74, .int .i64 (i : Nat))], [], []⟩) (I := fun (i : Nat) => i ≤ l9.length) (m := fun (i : Nat) => l9.length - i) (i := j) (j + 1) (μd := []) (by omega) (by omega) (And.intro rfl (And.intro rfl (And.intro rfl (And.intro rfl (And.intro rfl (And.intro rfl (And.intro rfl (And.intro rfl (And.intro rfl (And.intro rfl (And.intro rfl (And.intro rfl (And.intro rfl (trivial)))))))))))))) (permI [] rfl) (fun _ h => nomatch h) (fun _ h => h)
   ·simp only [decide_eq_false_iff_not] at h75
    refine CJ_exit ?_
    refine QJ_then_exit ?_
    refine QJ_then_exit ?_
    refine QJ_in_exit ?_
    refine QJ_then ?_
    refine CJ_regM mix (by kernel_rfl) (fun _ _ _ _ _ h => h) [[26], [], [], []] ?_
    refine BJ_l 0 0 rfl (by kernel_rfl) (by kernel_rfl) (by kernel_rfl) rfl (by kernel_rfl) m0 rfl rfl (YJ_loadN (vs := [_, _]) rfl tyi_100 m0 rfl rfl) ?_
    refine BJ_l 1 3 rfl (by kernel_rfl) (by kernel_rfl) (by kernel_rfl) rfl (by kernel_rfl) m3 rfl rfl (YJ_loadL rfl tyi_28 m0 rfl) ?_
    refine BJ_y 2 rfl (by kernel_rfl) (by kernel_rfl) (by kernel_rfl) rfl rfl (YJ_nilCheck rfl) ?_
    refine BJ_y 3 rfl (by kernel_rfl) (by kernel_rfl) (by kernel_rfl) rfl rfl (YJ_fieldOwn rfl fld_57_0 rfl) ?_
    refine BJ_y 4 rfl (by kernel_rfl) (by kernel_rfl) (by kernel_rfl) rfl rfl (YJ_loadFactP (A := some ⟨B, 0, none⟩) (j := 0) rfl rfl tyi_26 m6 rfl) ?_
    refine BJ_y 5 rfl (by kernel_rfl) (by kernel_rfl) (by kernel_rfl) rfl rfl (YJ_move rfl) ?_
    refine BJ_y 6 rfl (by kernel_rfl) (by kernel_rfl) (by kernel_rfl) rfl rfl (YJ_ixFact (n' := l9.length) rfl rfl elt_55 m1 (by decide) (by omega) (by omega) (by omega)) ?_
    refine BJ_y 7 rfl (by kernel_rfl) (by kernel_rfl) (by kernel_rfl) rfl rfl (YJ_loadFactP (A := Ah) (j := 0) rfl (congrArg _ (by omega)) tyi_3 m1 (Iv_at hz)) ?_
    refine BJ_y 8 rfl (by kernel_rfl) (by kernel_rfl) (by kernel_rfl) rfl rfl (YJ_ixFact rfl rfl elt_26 m7 (by decide) (by omega) (by omega) (by omega)) ?_
    refine BJ_y 9 rfl (by kernel_rfl) (by kernel_rfl) (by kernel_rfl) rfl rfl (YJ_loadFactN (vs := [_, _]) (xs := ptCells pts) rfl tyi_23 m7 (ptCells_get (i := (z).toNat) (by omega)) rfl) ?_
    refine BJ_l 10 3 rfl (by kernel_rfl) (by kernel_rfl) (by kernel_rfl) rfl (by kernel_rfl) m3 rfl rfl (YJ_loadL rfl tyi_28 m0 rfl) ?_
    refine BJ_y 11 rfl (by kernel_rfl) (by kernel_rfl) (by kernel_rfl) rfl rfl (YJ_nilCheck rfl) ?_
    refine BJ_y 12 rfl (by kernel_rfl) (by kernel_rfl) (by kernel_rfl) rfl rfl (YJ_fieldOwn rfl fld_57_0 rfl) ?_
    refine BJ_y 13 rfl (by kernel_rfl) (by kernel_rfl) (by kernel_rfl) rfl rfl (YJ_loadFactP (A := some ⟨B, 0, none⟩) (j := 0) rfl rfl tyi_26 m6 rfl) ?_
    refine BJ_y 14 rfl (by kernel_rfl) (by kernel_rfl) (by kernel_rfl) rfl rfl (YJ_move rfl) ?_
    refine BJ_y 15 rfl (by kernel_rfl) (by kernel_rfl) (by kernel_rfl) rfl rfl (YJ_ixFact rfl rfl elt_26 m7 (by decide) (by omega) (by omega) (by omega)) ?_
    refine BJ_y 16 rfl (by kernel_rfl) (by kernel_rfl) (by kernel_rfl) rfl rfl (YJ_loadFactN (vs := [_, _]) (xs := ptCells pts) rfl tyi_23 m7 (ptCells_get (i := (a).toNat) (by omega)) rfl) ?_
    refine BJ_l 17 3 rfl (by kernel_rfl) (by kernel_rfl) (by kernel_rfl) rfl (by kernel_rfl) m3 rfl rfl (YJ_loadL rfl tyi_28 m0 rfl) ?_
    refine BJ_y 18 rfl (by kernel_rfl) (by kernel_rfl) (by kernel_rfl) rfl rfl (YJ_nilCheck rfl) ?_
    refine BJ_y 19 rfl (by kernel_rfl) (by kernel_rfl) (by kernel_rfl) rfl rfl (YJ_fieldOwn rfl fld_57_0 rfl) ?_
    refine BJ_y 20 rfl (by kernel_rfl) (by kernel_rfl) (by kernel_rfl) rfl rfl (YJ_loadFactP (A := some ⟨B, 0, none⟩) (j := 0) rfl rfl tyi_26 m6 rfl) ?_
    refine BJ_y 21 rfl (by kernel_rfl) (by kernel_rfl) (by kernel_rfl) rfl rfl (YJ_move rfl) ?_
    refine BJ_y 22 rfl (by kernel_rfl) (by kernel_rfl) (by kernel_rfl) rfl rfl (YJ_ixFact rfl rfl elt_26 m7 (by decide) (by omega) (by omega) (by omega)) ?_
    refine BJ_y 23 rfl (by kernel_rfl) (by kernel_rfl) (by kernel_rfl) rfl rfl (YJ_loadFactN (vs := [_, _]) (xs := ptCells pts) rfl tyi_23 m7 (ptCells_get (i := (b).toNat) (by omega)) rfl) ?_
    refine BJ_callX 24 rfl (by kernel_rfl) rfl rfl rfl rfl rfl (And.intro (.inr m0) (And.intro (.inr m1) (And.intro (.inr m2) (And.intro (.inr m3) (trivial))))) (area2_c (hP (z).toNat (by omega)) (hP (a).toNat (by omega)) (hP (b).toNat (by omega))) (AllIn.sub (by first | exact trivial | exact And.intro (by repeat first | exact .head _ | apply List.Mem.tail) trivial | exact And.intro (by repeat first | exact .head _ | apply List.Mem.tail) (And.intro (by repeat first | exact .head _ | apply List.Mem.tail) trivial))) ?_
    rintro ⟨A126, k126⟩ hcap126
    dsimp only at hcap126
    dsimp only [List.cons_append, List.nil_append]
    refine BJ_callX 25 rfl (by kernel_rfl) rfl rfl rfl rfl rfl (And.intro (.inr m0) (And.intro (.inr m1) (And.intro (.inr m2) (And.intro (.inr m3) (trivial))))) (nadd_c (a := o) (b := A2p pts z a b) (by exact Nat.le_trans (dl_sum (n := k) ho1 (by omega)) (by decide)) (by exact Nat.le_trans (dl_sum (n := 1) (by omega) (by omega)) (by decide)) ho2 hcap126) (AllIn.sub (And.intro m1 (And.intro m0 trivial))) ?_
    rintro ⟨A127, k127⟩ hcap127
    dsimp only at hcap127
    dsimp only [List.cons_append, List.nil_append]
    refine BJ_store (cs' := #[_, _]) (μ' := [_, _, _, _]) 26 0 rfl (by kernel_rfl) rfl rfl rfl rfl tyi_100 rfl (Nat.le_of_ble_eq_true rfl) rfl rfl rfl (And.intro (.inl rfl) (And.intro (.inr m1) (And.intro (.inr m2) (And.intro (.inr m3) (trivial))))) ?_
    refine BJ_done (by kernel_rfl) ?_
    refine QJ_in_normal ?_
    refine QJ_then ?_
    refine CJ_reg ?_
    refine LJ_y rfl rfl (YJ_bin rfl rfl (iop_add (by omega))) ?_
    refine LJ_y rfl rfl (YJ_move rfl) ?_
    refine LJ_nil ?_
    refine QJ_roundF (F := fun (i : Nat × Int × Option Addr × Nat) => ⟨[(1, .pointer (some ⟨b1, 0, none⟩)), (3, .pointer (some ⟨b2, 0, none⟩)), (4, .pointer (some ⟨b3, 0, none⟩)), (10, .slice Ah l9.length ch), (57, .slice Ah l9.length ch), (58, .int .i64 l9.length), (59, .int .i64 (i.1 : Nat))], [cellsR b3 #[.bool (decide (i.2.1 < 0)), .slice i.2.2.1 (dl i.2.1) i.2.2.2] 100], [numF i.2.1 i.2.2.1]⟩) (I := fun (i : Nat × Int × Option Addr × Nat) => i.1 ≤ l9.length ∧ i.2.1 = outA pts l9 i.1 ∧ i.2.1.natAbs ≤ i.1 * 170141183460469231731687303715884105728 ∧ dl i.2.1 ≤ i.2.2.2) (m := fun (i : Nat × Int × Option Addr × Nat) => l9.length - i.1) (i := (k, o, A4, c4)) ((k + 1, o + A2p pts z a b, A127, k127)) (μd := []) ⟨by omega, by dsimp only; rw [outA_succ, ← ho0]; unfold outT; rw [getD_of hz, getD_of ha, getD_of hb], by dsimp only; omega, hcap127⟩ (by dsimp only; omega) (And.intro rfl (And.intro rfl (And.intro rfl (And.intro rfl (And.intro rfl (And.intro rfl (And.intro rfl (trivial)))))))) (permI [] rfl) (AllIn.sub (And.intro m0 trivial)) (fun _ h => .tail _ (.tail _ (.tail _ h)))
  ·simp only [decide_eq_false_iff_not] at h60
   have hk9 : l9.length = k := by omega
   subst hk9
   refine CJ_exit ?_
   refine QJ_then_exit ?_
   refine QJ_then_exit ?_
   refine QJ_in_exit ?_
   refine QJ_then ?_
   refine CJ_seq ?_
   refine CJ_reg ?_
   refine LJ_y rfl rfl (YJ_loadN (vs := [_, _]) rfl tyi_100 m2 rfl rfl) ?_
   refine LJ_y rfl rfl (YJ_loadN (vs := [_, _]) rfl tyi_100 m0 rfl rfl) ?_
   refine LJ_call0 rfl rfl rfl rfl rfl (ncmp_c (a := s9) (b := o) (by exact Nat.le_trans (dl_sum (n := (reals tris).length) hs1 (by omega)) (by decide)) (by exact Nat.le_trans (dl_sum (n := l9.length) ho1 (by omega)) (by decide)) hs2 ho2) (AllIn.sub (And.intro m2 (And.intro m0 trivial))) ?_
   refine LJ_y rfl rfl (YJ_bin rfl rfl rfl) ?_
   refine LJ_y rfl rfl (YJ_assign rfl) ?_
   refine LJ_nil ?_
   refine QJ_then ?_
   refine CJ_ret ?_
   refine QJ_finM (.inl rfl) [D0] rfl (μ' := []) (μr := [_, _, _]) (φ' := []) (res_tmp rfl rfl) (permI [1] rfl) (fun _ h => nomatch h) ?_
   exact ⟨congrArg Value.bool (decide_eq_true (by rw [hs0, ho0, hsum, Int.sub_self]; rfl)), rfl, rfl⟩
 ·exact fun _ _ _ _ _ h => h.elim
end Go.Proofs.Ytbanlhlggkdanaa
namespace Go.Proofs.Ytbanlhlggkdanaa
open Go.RowKit
theorem umap_119 : Try.prog.underlying 119 = some (.map 122 3) := by kernel_rfl
theorem ent_31 : Enter Try.prog 31 = true := by kernel_rfl
theorem zer_122 : zer Try.prog 122 = some (.agg #[.int .i64 0, .int .i64 0]) := by kernel_rfl
theorem lay_122 : lay1 Try.prog 122 = some [.int .i64 0, .int .i64 0] := by kernel_rfl
theorem tyi_122 : tyi Try.prog 122 = some (true, 2) := by kernel_rfl
theorem check_str2 {P : Program} (w : World) {t e : TypeId} {f1 f2 : Field} {q : IntKind} (hu : P.underlying t = some (.struct #[f1, f2])) (h1 : f1.type = e ∧ f1.offset = 0) (h2 : f2.type = e ∧ f2.offset = 1) (he : tyi P e = some (false, 1)) (hk : P.underlying e = some (.int q)) (em : Bool) (a b : Int) :
  (Instr.checkKey em 10000 t (.agg #[.int .i64 a, .int .i64 b])).run P w = .ok () w := by
 rw [show (10000 : Nat) = 9998 + 1 + 1 from rfl]
 generalize 9998 = n
 have p0 : (part e #[Value.int .i64 a, Value.int .i64 b] 0).run P w = .ok (.int .i64 a) w := run_part1 he rfl w
 have p1 : (part e #[Value.int .i64 a, Value.int .i64 b] 1).run P w = .ok (.int .i64 b) w := run_part1 he rfl w
 have c0 : ∀ x : Int, (Instr.checkKey em (n + 1) e (.int .i64 x)).run P w = .ok () w := fun x => by simp [Instr.checkKey, run_underlying hk]
 rw [Instr.checkKey]
 simp only [Sem.run_bind, run_underlying hu, Result.andThen_ok]
 by_cases g1 : f1.name = "_" <;> by_cases g2 : f2.name = "_" <;> simp [h1.1, h1.2, h2.1, h2.2, p0, p1, c0, g1, g2]
theorem way_fields : ∃ f1 f2 : Field, Try.prog.underlying 122 = some (.struct #[f1, f2]) ∧ (f1.type = 3 ∧ f1.offset = 0) ∧ (f2.type = 3 ∧ f2.offset = 1) := by
 have hf : Try.prog.underlying 122 = some (.struct (Try.prog.fieldsOf 122)) := by kernel_rfl
 have hs : (Try.prog.fieldsOf 122).toList.map (fun f => (f.type, f.offset)) = [(3, 0), (3, 1)] := by kernel_rfl
 rcases hl : (Try.prog.fieldsOf 122).toList with _ | ⟨f1, _ | ⟨f2, _ | ⟨f3, r⟩⟩⟩
 ·rw [hl] at hs; simp at hs
 ·rw [hl] at hs; simp at hs
 ·rw [hl] at hs
  simp only [List.map_cons, List.map_nil, List.cons.injEq, Prod.mk.injEq, and_true] at hs
  have e : Try.prog.fieldsOf 122 = #[f1, f2] := Array.toList_inj.1 (hl.trans rfl)
  exact ⟨f1, f2, hf.trans (congrArg (fun x => some (TypeDesc.struct x)) e), hs.1, hs.2⟩
 ·rw [hl] at hs; simp at hs
theorem eqs_way (a b c d : Int) (w : World) : (Op.equal 122 (.agg #[.int .i64 a, .int .i64 b]) (.agg #[.int .i64 c, .int .i64 d])).run Try.prog w = .ok (decide (a = c) && decide (b = d)) w := by
 have hf : Try.prog.underlying 122 = some (.struct (Try.prog.fieldsOf 122)) := by kernel_rfl
 unfold Op.equal
 rw [show Op.maxDepth = 9999 + 1 from rfl, run_equalIn_agg w 9999 122 _ _ hf (by kernel_rfl)]
 simp [go_sem]
 by_cases h1 : a = c <;> by_cases h2 : b = d <;> simp [h1, h2]
theorem keyWay : KeyT Try.prog 122 fK := by
 obtain ⟨f1, f2, hu, h1, h2⟩ := way_fields
 exact keyTwo (by kernel_rfl) (fun em a b w => check_str2 (q := .i64) w hu h1 h2 (by kernel_rfl) (by kernel_rfl) em a b) eqs_way
abbrev MW := List ((Int × Int) × Int × Nat)
def edT (t : Tr) (k : Nat) : Int × Int := (t.v ((k + 1) % 3), t.v ((k + 2) % 3))
def edTs (t : Tr) : List (Int × Int) := [edT t 0, edT t 1, edT t 2]
def liveE (l : List Tr) : List (Int × Int) := l.flatMap fun t => if t.v0 = -2 then [] else edTs t
def okT (pts : List (Int × Int)) (tris : List Tr) (t : Tr) (n : Nat) : Bool := madeB pts t && (decide (t.v0 = -2) || besB tris t (n : Nat))
def sndP (pts : List (Int × Int)) (tris : List Tr) : Prop := (liveE tris).Nodup ∧ ∀ (n : Nat) (t : Tr), tris[n]? = some t → okT pts tris t n = true
theorem liveE_take {l : List Tr} {n : Nat} {t : Tr} (h : l[n]? = some t) : liveE (l.take (n + 1)) = liveE (l.take n) ++ (if t.v0 = -2 then [] else edTs t) := by
 rw [List.take_add_one, h]
 unfold liveE
 rw [List.flatMap_append]
 simp
theorem liveE_dup {l : List Tr} {n k : Nat} {t : Tr} (h : l[n]? = some t) (hk : k < 3) (hl : t.v0 ≠ -2) (hm : edT t k ∈ liveE (l.take n) ++ (edTs t).take k) : ¬ (liveE l).Nodup := by
 intro hn
 have e : liveE l = liveE (l.take (n + 1)) ++ liveE (l.drop (n + 1)) := by
  unfold liveE
  rw [← List.flatMap_append, List.take_append_drop]
 rw [e, liveE_take h, if_neg hl] at hn
 have h1 := (List.nodup_append.1 hn).1
 have e2 : edTs t = (edTs t).take k ++ (edT t k :: (edTs t).drop (k + 1)) := by
  match k, hk with
  | 0, _ => rfl
  | 1, _ => rfl
  | 2, _ => rfl
 rw [e2, ← List.append_assoc] at h1
 exact (List.nodup_append.1 h1).2.2 _ hm _ (.head _) rfl
theorem edTs_take {t : Tr} {k : Nat} (hk : k < 3) : (edTs t).take (k + 1) = (edTs t).take k ++ [edT t k] := by
 match k, hk with
 | 0, _ => rfl
 | 1, _ => rfl
 | 2, _ => rfl
structure WI (pts : List (Int × Int)) (tris : List Tr) (n : Nat) (es : List (Int × Int)) (L : MW) (c : Nat) : Prop where
 nd : es.Nodup
 ok : ∀ (q : Nat) (t : Tr), q < n → tris[q]? = some t → okT pts tris t q = true
 gt : ∀ w, (mget w L).getD 0 = if w ∈ es then 1 else 0
 bn : (L.map (·.2.2)).Nodup
 bc : ∀ e, e ∈ L → e.2.2 < c
theorem WI.edge {pts : List (Int × Int)} {tris : List Tr} {n : Nat} {es : List (Int × Int)} {L : MW} {c : Nat} {w : Int × Int} (h : WI pts tris n es L c) (hw : ¬ w ∈ es) : WI pts tris n (es ++ [w]) (mput w ((mget w L).getD 0 + 1) L c) (mclk w L c) := by
 have hb := mput_born (k := w) (v := (mget w L).getD 0 + 1) h.bc h.bn
 refine ⟨?_, h.ok, fun x => ?_, hb.1, hb.2⟩
 ·rw [List.nodup_append]
  refine ⟨h.nd, by simp, fun a ha b hb => ?_⟩
  rw [List.mem_singleton] at hb
  subst hb
  exact fun q => hw (q ▸ ha)
 ·rw [mget_mput]
  by_cases q : x = w
  ·subst q
   rw [if_pos rfl, if_pos (List.mem_append_right _ (.head _)), h.gt, if_neg hw]
   rfl
  ·rw [if_neg q, h.gt]
   by_cases p : x ∈ es
   ·rw [if_pos p, if_pos (List.mem_append_left _ p)]
   ·rw [if_neg p, if_neg]
    intro r
    rcases List.mem_append.1 r with r | r
    ·exact p r
    ·rw [List.mem_singleton] at r; exact q r
theorem WI.next {pts : List (Int × Int)} {tris : List Tr} {n : Nat} {es es' : List (Int × Int)} {L : MW} {c : Nat} {t : Tr} (h : WI pts tris n es L c) (ht : tris[n]? = some t) (hok : okT pts tris t n = true) (he : es = es') : WI pts tris (n + 1) es' L c := by
 subst he
 refine ⟨h.nd, fun q u hq hu => ?_, h.gt, h.bn, h.bc⟩
 rcases Nat.lt_succ_iff_lt_or_eq.1 hq with p | p
 ·exact h.ok q u p hu
 ·subst p
  rw [ht] at hu
  cases hu
  exact hok
theorem getment {w : Int × Int} {l : MW} {c : Nat} : ((mget w (ment w (0 : Int) l c)).map gI).getD (.int .i64 0) = .int .i64 ((mget w l).getD 0) := by
 cases h : mget w l with
 | none =>
  have := mget_ment (k := w) (z := (0 : Int)) (l := l) (c := c) h gI
  rw [h] at this
  exact this
 | some v =>
  have e : ment w (0 : Int) l c = l := by
   unfold mget at h
   unfold ment
   cases hf : mfind w l 0 with
   | none => rw [hf] at h; cases h
   | some p => rfl
  rw [e, h]
  rfl
theorem bfalse {b : Bool} {P : Prop} (h : b = true ↔ P) (hn : ¬ P) : false = b := by
 cases b with
 | false => rfl
 | true => exact absurd (h.1 rfl) hn
structure ArOk (pts : List (Int × Int)) (tris : List Tr) : Prop where
 lv : ∀ v, v ∈ hullOf tris (pts.length : Nat) → 0 ≤ v ∧ v < pts.length
 cv : ∀ (i : Nat) (a b c : Int), (hullOf tris (pts.length : Nat))[i]? = some a → (hullOf tris (pts.length : Nat))[(i + 1) % (hullOf tris (pts.length : Nat)).length]? = some b → c ∈ hullOf tris (pts.length : Nat) → 0 ≤ A2p pts a b c
 sum : sumA pts (reals tris) = outA pts (hullOf tris (pts.length : Nat)) (hullOf tris (pts.length : Nat)).length
theorem okTris_of {pts : List (Int × Int)} {tris : List Tr} (h : ∀ t, t ∈ tris → vOk pts.length t) : okTris pts tris := fun t ht hr => by
 obtain ⟨r0, r1, r2⟩ := hr
 have h0 := h t ht 0 (by decide)
 have h1 := h t ht 1 (by decide)
 have h2 := h t ht 2 (by decide)
 have e0 : t.v 0 = t.v0 := rfl
 have e1 : t.v 1 = t.v1 := rfl
 have e2 : t.v 2 = t.v2 := rfl
 rw [e0] at h0; rw [e1] at h1; rw [e2] at h2
 unfold Tr.ok
 omega
set_option maxRecDepth 100000 in
set_option maxHeartbeats 16000000 in
theorem sound_c {B : Nat} {h : Mh} {pts : List (Int × Int)} {tris : List Tr} {ats : List Int} {b : Bool} (hP : ∀ j, j < pts.length → P2 (pts.getD j (0, 0)).1 (pts.getD j (0, 0)).2) (hv : ∀ t, t ∈ tris → vOk pts.length t) (hna : h.na = ats.length) (hlen : tris.length ≤ 1000000) (hal : ats.length ≤ 1000000) (hs : sndP pts tris → StOk tris ats ∧ ArOk pts tris) (hb : b = true ↔ sndP pts tris) : Tri Try.prog 31 [.pointer (some ⟨B, 0, none⟩)] [] (atFs B h pts tris ats) (Ret0 (.bool b)) := by
 refine Tri_of (N := 65) Try.func31 rfl ent_31 rfl rfl ?_
 intro w0 S0 T0
 show CJ _ _ _ [(0, _)] _ _
 refine CJ_seq ?_
 refine CJ_reg ?_
 refine LJ_y rfl rfl (YJ_assign rfl) ?_
 refine LJ_nil ?_
 refine QJ_then ?_
 refine CJ_seq ?_
 refine CJ_reg ?_
 refine LJ_makeMap rfl rfl ?_
 intro wm
 refine LJ_y rfl rfl (YJ_assign rfl) ?_
 refine LJ_nil ?_
 refine QJ_then ?_
 refine CJ_seq ?_
 refine CJ_seq ?_
 refine CJ_reg ?_
 refine LJ_y rfl rfl (YJ_move rfl) ?_
 refine LJ_y rfl rfl (YJ_nilCheck rfl) ?_
 refine LJ_y rfl rfl (YJ_fieldOwn rfl fld_57_1 rfl) ?_
 refine LJ_y rfl rfl (YJ_loadFactP (A := some ⟨B, 0, none⟩) (j := 1) rfl rfl tyi_54 m0 rfl) ?_
 refine LJ_y rfl rfl (YJ_len rfl ulen_54 rfl) ?_
 refine LJ_y rfl rfl (YJ_move rfl) ?_
 refine LJ_nil ?_
 refine QJ_then ?_
 refine CJ_block ?_
 refine CJ_loopF (F := fun (i : Nat × MW × Nat) => ⟨[(0, .pointer (some ⟨B, 0, none⟩)), (3, .map (some wm)), (12, .slice h.T tris.length h.ct), (13, .int .i64 tris.length), (14, .int .i64 (i.1 : Nat))], [mapR wm fK gI i.2.1 i.2.2], []⟩) (I := fun (i : Nat × MW × Nat) => i.1 ≤ tris.length ∧ WI pts tris i.1 (liveE (tris.take i.1)) i.2.1 i.2.2) (m := fun (i : Nat × MW × Nat) => tris.length - i.1) (0, [], 0) (μr := []) ⟨Nat.zero_le _, List.nodup_nil, (fun _ _ h => absurd h (Nat.not_lt_zero _)), (fun _ => rfl), List.nodup_nil, (fun _ h => nomatch h)⟩ (And.intro rfl (And.intro rfl (And.intro rfl (And.intro rfl (And.intro rfl (trivial)))))) (permI [] rfl) (fun _ h => nomatch h) ?_
 rintro ⟨n, L0, c0⟩ ⟨hn, hWI0⟩
 try dsimp only at hn
 try dsimp only at hWI0
 show CJ _ _ _ [(0, .pointer (some ⟨B, 0, none⟩)), (3, .map (some wm)), (12, .slice h.T tris.length h.ct), (13, .int .i64 tris.length), (14, .int .i64 (n : Nat))] (mapR wm fK gI L0 c0 :: _) _
 refine CJ_seq ?_
 refine CJ_reg ?_
 refine LJ_y rfl rfl (YJ_bin rfl rfl rfl) ?_
 refine LJ_nil ?_
 refine QJ_then ?_
 refine CJ_seq ?_
 refine CJ_cond rfl (fun h15 => ?_) (fun h15 => ?_)
 ·simp only [decide_eq_true_eq] at h15
  obtain ⟨t, ht⟩ := get_at h15
  refine CJ_skip ?_
  refine QJ_then ?_
  refine CJ_seq ?_
  refine CJ_block ?_
  refine CJ_seq ?_
  refine CJ_reg ?_
  refine LJ_y rfl rfl (YJ_move rfl) ?_
  refine LJ_y rfl rfl (YJ_ixFact rfl rfl elt_54 m2 (by decide) (by omega) (by omega) (by omega)) ?_
  refine LJ_y rfl rfl (YJ_loadFactN (vs := [.int .i64 t.v0, .int .i64 t.v1, .int .i64 t.v2, .int .i64 t.n0, .int .i64 t.n1, .int .i64 t.n2, .bool t.f0, .bool t.f1, .bool t.f2]) (xs := trCells tris) rfl tyi_37 m2 (trCells_row ht) rfl) ?_
  refine LJ_alloc (cs := #[_, _, _, _, _, _, _, _, _]) rfl rfl zer_37 rfl ?_
  intro b2
  refine LJ_y rfl rfl (YJ_assign rfl) ?_
  refine LJ_store (cs' := #[_, _, _, _, _, _, _, _, _]) (μ' := [_, _]) 0 rfl rfl rfl rfl tyi_37 rfl (Nat.le_of_ble_eq_true rfl) rfl (wr_all rfl) rfl ?_
  refine LJ_nil ?_
  refine QJ_then ?_
  refine CJ_seq ?_
  refine CJ_seq ?_
  refine CJ_reg ?_
  refine LJ_y rfl rfl (YJ_move rfl) ?_
  refine LJ_y rfl rfl (YJ_loadN (vs := [_, _, _, _, _, _, _, _, _]) rfl tyi_37 m0 rfl rfl) ?_
  refine LJ_call0 rfl rfl rfl rfl rfl (made_c (h := h) (tris := tris) hP (hv t (List.mem_of_getElem? ht))) (at_mesh (fun r h => h)) ?_
  refine LJ_y rfl rfl (YJ_not rfl) ?_
  refine LJ_nil ?_
  refine QJ_then ?_
  refine CJ_cond rfl (fun h22 => ?_) (fun h22 => ?_)
  ·simp only [Bool.not_eq_true'] at h22
   refine CJ_seq ?_
   refine CJ_reg ?_
   refine LJ_y rfl rfl (YJ_assign rfl) ?_
   refine LJ_nil ?_
   refine QJ_then ?_
   refine CJ_ret ?_
   refine QJ_then_ret ?_
   refine QJ_in_ret ?_
   refine QJ_then_ret ?_
   refine QJ_then_ret ?_
   refine QJ_in_ret ?_
   refine QJ_then_ret ?_
   refine QJ_fin (.inl rfl) (μ' := []) (μr := _) (φ' := []) (res_tmp rfl rfl) (List.Perm.refl _) (fun _ h => nomatch h) ?_
   exact ⟨congrArg Value.bool (bfalse hb (fun q => by have := q.2 n t ht; unfold okT at this; rw [h22] at this; cases this)), rfl, rfl⟩
  ·simp only [Bool.not_eq_false'] at h22
   refine CJ_skip ?_
   refine QJ_then ?_
   refine CJ_seq ?_
   refine CJ_seq ?_
   refine CJ_reg ?_
   refine LJ_y rfl rfl (YJ_fieldOwn rfl fld_37_0 rfl) ?_
   refine LJ_y rfl rfl (YJ_ixArr rfl rfl arrt_34 (by omega) (by omega) rfl) ?_
   refine LJ_y rfl rfl (YJ_loadL rfl tyi_3 m0 rfl) ?_
   refine LJ_y rfl rfl (YJ_bin rfl rfl rfl) ?_
   refine LJ_nil ?_
   refine QJ_then ?_
   refine CJ_cond rfl (fun h26 => ?_) (fun h26 => ?_)
   ·simp only [decide_eq_true_eq] at h26
    refine CJ_exit ?_
    refine QJ_then_exit ?_
    refine QJ_in_exit ?_
    refine QJ_then ?_
    refine CJ_reg ?_
    refine LJ_y rfl rfl (YJ_bin rfl rfl (iop_add (by omega))) ?_
    refine LJ_y rfl rfl (YJ_move rfl) ?_
    refine LJ_nil ?_
    refine QJ_roundF (F := fun (i : Nat × MW × Nat) => ⟨[(0, .pointer (some ⟨B, 0, none⟩)), (3, .map (some wm)), (12, .slice h.T tris.length h.ct), (13, .int .i64 tris.length), (14, .int .i64 (i.1 : Nat))], [mapR wm fK gI i.2.1 i.2.2], []⟩) (I := fun (i : Nat × MW × Nat) => i.1 ≤ tris.length ∧ WI pts tris i.1 (liveE (tris.take i.1)) i.2.1 i.2.2) (m := fun (i : Nat × MW × Nat) => tris.length - i.1) (i := (n, L0, c0)) ((n + 1, L0, c0)) (μd := [_]) ⟨by omega, hWI0.next ht (by unfold okT; rw [h22, decide_eq_true h26]; rfl) (by rw [liveE_take ht, if_pos h26, List.append_nil])⟩ (by dsimp only; omega) (And.intro rfl (And.intro rfl (And.intro rfl (And.intro rfl (And.intro rfl (trivial)))))) (permI [1] rfl) (fun _ h => nomatch h) (fun _ h => h)
   ·simp only [decide_eq_false_iff_not] at h26
    refine CJ_skip ?_
    refine QJ_then ?_
    refine CJ_seq ?_
    refine CJ_seq ?_
    refine CJ_reg ?_
    refine LJ_y rfl rfl (YJ_move rfl) ?_
    refine LJ_nil ?_
    refine QJ_then ?_
    refine CJ_block ?_
    refine CJ_loopF (F := fun (i : Nat × MW × Nat) => ⟨[(0, .pointer (some ⟨B, 0, none⟩)), (3, .map (some wm)), (12, .slice h.T tris.length h.ct), (13, .int .i64 tris.length), (14, .int .i64 (n : Nat)), (4, .int .i64 (n : Nat)), (5, .pointer (some ⟨b2, 0, none⟩)), (27, .int .i64 (i.1 : Nat))], [mapR wm fK gI i.2.1 i.2.2, cellsR b2 #[.int .i64 t.v0, .int .i64 t.v1, .int .i64 t.v2, .int .i64 t.n0, .int .i64 t.n1, .int .i64 t.n2, .bool t.f0, .bool t.f1, .bool t.f2] 37], []⟩) (I := fun (i : Nat × MW × Nat) => i.1 ≤ 3 ∧ WI pts tris n (liveE (tris.take n) ++ (edTs t).take i.1) i.2.1 i.2.2) (m := fun (i : Nat × MW × Nat) => 3 - i.1) (0, L0, c0) (μr := []) ⟨Nat.zero_le _, by rw [List.take_zero, List.append_nil]; exact hWI0⟩ (And.intro rfl (And.intro rfl (And.intro rfl (And.intro rfl (And.intro rfl (And.intro rfl (And.intro rfl (And.intro rfl (trivial))))))))) (permI [1] rfl) (fun _ h => nomatch h) ?_
    rintro ⟨k, L1, c1⟩ ⟨hk, hWI⟩
    try dsimp only at hk
    try dsimp only at hWI
    show CJ _ _ _ [(0, .pointer (some ⟨B, 0, none⟩)), (3, .map (some wm)), (12, .slice h.T tris.length h.ct), (13, .int .i64 tris.length), (14, .int .i64 (n : Nat)), (4, .int .i64 (n : Nat)), (5, .pointer (some ⟨b2, 0, none⟩)), (27, .int .i64 (k : Nat))] (mapR wm fK gI L1 c1 :: cellsR b2 #[.int .i64 t.v0, .int .i64 t.v1, .int .i64 t.v2, .int .i64 t.n0, .int .i64 t.n1, .int .i64 t.n2, .bool t.f0, .bool t.f1, .bool t.f2] 37 :: _) _
    refine CJ_seq ?_
    refine CJ_reg ?_
    refine LJ_y rfl rfl (YJ_bin rfl rfl rfl) ?_
    refine LJ_nil ?_
    refine QJ_then ?_
    refine CJ_seq ?_
    refine CJ_cond rfl (fun h28 => ?_) (fun h28 => ?_)
    ·simp only [decide_eq_true_eq] at h28
     have hk3 : k < 3 := by omega
     refine CJ_skip ?_
     refine QJ_then ?_
     refine CJ_seq ?_
     refine CJ_block ?_
     refine CJ_seq ?_
     refine CJ_reg ?_
     refine LJ_y rfl rfl (YJ_move rfl) ?_
     refine LJ_y rfl rfl (YJ_assign rfl) ?_
     refine LJ_nil ?_
     refine QJ_then ?_
     refine CJ_seq ?_
     refine CJ_regDA mix (by kernel_rfl) (fun _ _ _ _ _ h => h) _ _ (fun _ h => h) (fun _ h => h) [⟨13, 7, 122, #[.int .i64 0, .int .i64 0]⟩] 14 rfl (And.intro ⟨_, _, _, _, rfl, zer_122, rfl⟩ (trivial)) rfl rfl ?_
     refine AA_y 0 rfl (by kernel_rfl) rfl rfl rfl (YJ_move rfl) ?_
     refine AA_y 1 rfl (by kernel_rfl) rfl rfl rfl (YJ_bin rfl rfl (iop_add (by omega))) ?_
     refine AA_y 2 rfl (by kernel_rfl) rfl rfl rfl (YJ_rem rfl rfl (by first | decide | omega)) ?_
     refine AA_val (v := .int .i64 (((k + 1) % 3 : Nat) : Int)) (congrArg (Value.int .i64) (tm3 (j := 1) hk3 (by decide))) ?_
     refine AA_y 3 rfl (by kernel_rfl) rfl rfl rfl (YJ_fieldOwn rfl fld_37_0 rfl) ?_
     refine AA_y 4 rfl (by kernel_rfl) rfl rfl rfl (YJ_ixArr rfl rfl arrt_34 (by omega) (by omega) rfl) ?_
     refine AA_y 5 rfl (by kernel_rfl) rfl rfl rfl (YJ_load1 rfl tyi_3 m1 (v_get (t := t) (Nat.mod_lt (k + 1) (by decide)))) ?_
     refine AA_y 6 rfl (by kernel_rfl) rfl rfl rfl (YJ_move rfl) ?_
     refine AA_y 7 rfl (by kernel_rfl) rfl rfl rfl (YJ_bin rfl rfl (iop_add (by omega))) ?_
     refine AA_y 8 rfl (by kernel_rfl) rfl rfl rfl (YJ_rem rfl rfl (by first | decide | omega)) ?_
     refine AA_val (v := .int .i64 (((k + 2) % 3 : Nat) : Int)) (congrArg (Value.int .i64) (tm3 (j := 2) hk3 (by decide))) ?_
     refine AA_y 9 rfl (by kernel_rfl) rfl rfl rfl (YJ_fieldOwn rfl fld_37_0 rfl) ?_
     refine AA_y 10 rfl (by kernel_rfl) rfl rfl rfl (YJ_ixArr rfl rfl arrt_34 (by omega) (by omega) rfl) ?_
     refine AA_y 11 rfl (by kernel_rfl) rfl rfl rfl (YJ_load1 rfl tyi_3 m1 (v_get (t := t) (Nat.mod_lt (k + 2) (by decide)))) ?_
     refine AA_y 12 rfl (by kernel_rfl) rfl rfl rfl (YJ_build1 (cs := [_, _]) lay_122 rfl rfl rfl) ?_
     refine AA_end (by kernel_rfl) rfl ?_
     intro bs hbs
     obtain ⟨b3, rfl⟩ := len_1 hbs
     clear hbs
     show AJ _ _ _ _ _ _ _ ((7, .pointer (some ⟨b3, 0, none⟩)) :: _) (cellsR b3 _ _ :: _) _
     refine AJ_store (cs' := #[_, _]) (μ' := [_, _, _]) 14 0 rfl (by kernel_rfl) rfl rfl rfl rfl tyi_122 rfl (Nat.le_of_ble_eq_true rfl) rfl rfl rfl (fun _ => AllIn.sub (And.intro m1 (And.intro m2 (trivial)))) ?_
     refine AJ_done (by kernel_rfl) ?_
     refine QJ_then ?_
     refine CJ_seq ?_
     refine CJ_regD mix (by kernel_rfl) (fun _ _ _ _ _ h => h) (selR [0, 2] _) _ (selR_sub _ _) (fun _ h => h) ?_
     refine AJ_y 0 rfl (by kernel_rfl) (by kernel_rfl) rfl rfl (YJ_move rfl) ?_
     refine AJ_y 1 rfl (by kernel_rfl) (by kernel_rfl) rfl rfl (YJ_loadN (vs := [_, _]) rfl tyi_122 m0 rfl rfl) ?_
     have hcb : 0 ≤ (mget (edT t k) L1).getD 0 ∧ (mget (edT t k) L1).getD 0 ≤ 1 := by
      rw [hWI.gt]
      split <;> omega
     refine AJ_two 2 4 rfl rfl (by kernel_rfl) rfl rfl rfl rfl (OJ_y (YJ_lookup (f := fK) (g := gI) (k := (edT t k)) rfl rfl umap_119 keyWay zer_3 (MapAt_own (l := L1) (c := c1) m1) rfl)) (OJ_mapEntry (f := fK) (g := gI) (k := (edT t k)) (z := (0 : Int)) 1 rfl rfl rfl umap_119 keyWay zer_3) ?_ ?_
     ·skip
      rintro _ _ _ ⟨rfl, rfl, rfl⟩
      refine ⟨fun _ _ h => h, fun _ _ h => h, ?_⟩
      refine AJ_val (v := .int .i64 ((mget (edT t k) L1).getD 0)) getD_map ?_
      show AJ _ _ _ _ _ _ _ _ (_ :: _ :: _ :: _) _
      refine AJ_y 3 rfl (by kernel_rfl) (by kernel_rfl) rfl rfl (YJ_bin rfl rfl (iop_add (by omega))) ?_
      refine AJ_mapEntry (f := fK) (g := gI) (k := (edT t k)) (z := (0 : Int)) 4 1 rfl (by kernel_rfl) rfl rfl rfl rfl rfl umap_119 keyWay zer_3 (AllIn.sub (And.intro m0 (And.intro m2 (trivial)))) ?_
      show AJ _ _ _ _ _ _ _ _ (_ :: _ :: _ :: _) _
      refine AJ_y 5 rfl (by kernel_rfl) (by kernel_rfl) rfl rfl (YJ_extract rfl rfl) ?_
      refine AJ_entryStore (f := fK) (g := gI) (b := (mborn (edT t k) L1 c1)) (v := ((mget (edT t k) L1).getD 0 + 1)) (l' := (mput (edT t k) ((mget (edT t k) L1).getD 0 + 1) L1 c1)) 6 1 rfl (by kernel_rfl) rfl rfl rfl rfl rfl (entry_mput (v := (0 : Int)) hWI.bn hWI.bc).2 (entry_mput hWI.bn hWI.bc).1 (AllIn.sub (And.intro m0 (And.intro m2 (trivial)))) ?_
      show AJ _ _ _ _ _ _ _ _ (_ :: _ :: _ :: _) _
      refine AJ_done (by kernel_rfl) ?_
      refine QJ_then ?_
      refine CJ_seq ?_
      refine CJ_reg ?_
      refine LJ_y rfl rfl (YJ_move rfl) ?_
      refine LJ_y rfl rfl (YJ_loadN (vs := [_, _]) rfl tyi_122 m0 rfl rfl) ?_
      refine LJ_y rfl rfl (YJ_lookup (f := fK) (g := gI) (k := (edT t k)) rfl rfl umap_119 keyWay zer_3 (MapAt_own (l := (mput (edT t k) ((mget (edT t k) L1).getD 0 + 1) L1 c1)) (c := mclk (edT t k) L1 c1) m1) rfl) ?_
      refine LJ_val (v := .int .i64 ((mget (edT t k) L1).getD 0 + 1)) (by rw [mget_mput, if_pos rfl]; rfl) ?_
      refine LJ_y rfl rfl (YJ_bin rfl rfl rfl) ?_
      refine LJ_nil ?_
      refine QJ_then ?_
      refine CJ_cond rfl (fun h52 => ?_) (fun h52 => ?_)
      ·simp only [decide_eq_true_eq] at h52
       refine CJ_seq ?_
       refine CJ_reg ?_
       refine LJ_y rfl rfl (YJ_assign rfl) ?_
       refine LJ_nil ?_
       refine QJ_then ?_
       refine CJ_ret ?_
       refine QJ_in_ret ?_
       refine QJ_then_ret ?_
       refine QJ_then_ret ?_
       refine QJ_in_ret ?_
       refine QJ_then_ret ?_
       refine QJ_in_ret ?_
       refine QJ_then_ret ?_
       refine QJ_then_ret ?_
       refine QJ_in_ret ?_
       refine QJ_then_ret ?_
       refine QJ_fin (.inl rfl) (μ' := []) (μr := _) (φ' := []) (res_tmp rfl rfl) (List.Perm.refl _) (fun _ h => nomatch h) ?_
       exact ⟨congrArg Value.bool (bfalse hb (fun q => by refine liveE_dup ht hk3 h26 ?_ q.1; have := hWI.gt (edT t k); apply Classical.byContradiction; intro p; rw [if_neg p] at this; omega)), rfl, rfl⟩
      ·simp only [decide_eq_false_iff_not] at h52
       have hnew : ¬ (edT t k) ∈ liveE (tris.take n) ++ (edTs t).take k := by
        intro q
        have := hWI.gt (edT t k)
        rw [if_pos q] at this
        omega
       refine CJ_skip ?_
       refine QJ_in_normal ?_
       refine QJ_then ?_
       refine CJ_reg ?_
       refine LJ_y rfl rfl (YJ_bin rfl rfl (iop_add (by omega))) ?_
       refine LJ_y rfl rfl (YJ_move rfl) ?_
       refine LJ_nil ?_
       refine QJ_roundF (F := fun (i : Nat × MW × Nat) => ⟨[(0, .pointer (some ⟨B, 0, none⟩)), (3, .map (some wm)), (12, .slice h.T tris.length h.ct), (13, .int .i64 tris.length), (14, .int .i64 (n : Nat)), (4, .int .i64 (n : Nat)), (5, .pointer (some ⟨b2, 0, none⟩)), (27, .int .i64 (i.1 : Nat))], [mapR wm fK gI i.2.1 i.2.2, cellsR b2 #[.int .i64 t.v0, .int .i64 t.v1, .int .i64 t.v2, .int .i64 t.n0, .int .i64 t.n1, .int .i64 t.n2, .bool t.f0, .bool t.f1, .bool t.f2] 37], []⟩) (I := fun (i : Nat × MW × Nat) => i.1 ≤ 3 ∧ WI pts tris n (liveE (tris.take n) ++ (edTs t).take i.1) i.2.1 i.2.2) (m := fun (i : Nat × MW × Nat) => 3 - i.1) (i := _) ((k + 1, (mput (edT t k) ((mget (edT t k) L1).getD 0 + 1) L1 c1), mclk (edT t k) L1 c1)) (μd := [_]) ⟨by omega, by dsimp only; rw [edTs_take hk3, ← List.append_assoc]; exact hWI.edge hnew⟩ (by dsimp only; omega) (And.intro rfl (And.intro rfl (And.intro rfl (And.intro rfl (And.intro rfl (And.intro rfl (And.intro rfl (And.intro rfl (trivial))))))))) (permI [1, 1] rfl) (fun _ h => nomatch h) (fun _ h => h)
     ·skip
      rintro _ _ _ ⟨rfl, rfl, rfl⟩
      refine ⟨by intro r hr h; clear h; revert r; exact AllIn.sub (And.intro m0 (And.intro m2 (trivial))), fun _ _ h => h, ?_⟩
      show AJ _ _ _ _ _ _ _ _ (_ :: _ :: _ :: _) _
      refine AJ_y 5 rfl (by kernel_rfl) (by kernel_rfl) rfl rfl (YJ_extract rfl rfl) ?_
      refine AJ_yo 2 rfl (by kernel_rfl) rfl rfl (YJ_lookup (f := fK) (g := gI) (k := (edT t k)) rfl rfl umap_119 keyWay zer_3 (MapAt_own (l := ment (edT t k) (0 : Int) L1 c1) (c := mclk (edT t k) L1 c1) m1) rfl) ?_
      refine AJ_val (v := .int .i64 ((mget (edT t k) L1).getD 0)) (getment) ?_
      refine AJ_y 3 rfl (by kernel_rfl) (by kernel_rfl) rfl rfl (YJ_bin rfl rfl (iop_add (by omega))) ?_
      refine AJ_entryStore (f := fK) (g := gI) (b := (mborn (edT t k) L1 c1)) (v := ((mget (edT t k) L1).getD 0 + 1)) (l' := (mput (edT t k) ((mget (edT t k) L1).getD 0 + 1) L1 c1)) 6 1 rfl (by kernel_rfl) rfl rfl rfl rfl rfl (entry_mput (v := (0 : Int)) hWI.bn hWI.bc).2 (entry_mput hWI.bn hWI.bc).1 (AllIn.sub (And.intro m0 (And.intro m2 (trivial)))) ?_
      show AJ _ _ _ _ _ _ _ _ (_ :: _ :: _ :: _) _
      refine AJ_done (by kernel_rfl) ?_
      refine QJ_then ?_
      refine CJ_seq ?_
      refine CJ_reg ?_
      refine LJ_y rfl rfl (YJ_move rfl) ?_
      refine LJ_y rfl rfl (YJ_loadN (vs := [_, _]) rfl tyi_122 m0 rfl rfl) ?_
      refine LJ_y rfl rfl (YJ_lookup (f := fK) (g := gI) (k := (edT t k)) rfl rfl umap_119 keyWay zer_3 (MapAt_own (l := (mput (edT t k) ((mget (edT t k) L1).getD 0 + 1) L1 c1)) (c := mclk (edT t k) L1 c1) m1) rfl) ?_
      refine LJ_val (v := .int .i64 ((mget (edT t k) L1).getD 0 + 1)) (by rw [mget_mput, if_pos rfl]; rfl) ?_
      refine LJ_y rfl rfl (YJ_bin rfl rfl rfl) ?_
      refine LJ_nil ?_
      refine QJ_then ?_
      refine CJ_cond rfl (fun h52 => ?_) (fun h52 => ?_)
      ·simp only [decide_eq_true_eq] at h52
       refine CJ_seq ?_
       refine CJ_reg ?_
       refine LJ_y rfl rfl (YJ_assign rfl) ?_
       refine LJ_nil ?_
       refine QJ_then ?_
       refine CJ_ret ?_
       refine QJ_in_ret ?_
       refine QJ_then_ret ?_
       refine QJ_then_ret ?_
       refine QJ_in_ret ?_
       refine QJ_then_ret ?_
       refine QJ_in_ret ?_
       refine QJ_then_ret ?_
       refine QJ_then_ret ?_
       refine QJ_in_ret ?_
       refine QJ_then_ret ?_
       refine QJ_fin (.inl rfl) (μ' := []) (μr := _) (φ' := []) (res_tmp rfl rfl) (List.Perm.refl _) (fun _ h => nomatch h) ?_
       exact ⟨congrArg Value.bool (bfalse hb (fun q => by refine liveE_dup ht hk3 h26 ?_ q.1; have := hWI.gt (edT t k); apply Classical.byContradiction; intro p; rw [if_neg p] at this; omega)), rfl, rfl⟩
      ·simp only [decide_eq_false_iff_not] at h52
       have hnew : ¬ (edT t k) ∈ liveE (tris.take n) ++ (edTs t).take k := by
        intro q
        have := hWI.gt (edT t k)
        rw [if_pos q] at this
        omega
       refine CJ_skip ?_
       refine QJ_in_normal ?_
       refine QJ_then ?_
       refine CJ_reg ?_
       refine LJ_y rfl rfl (YJ_bin rfl rfl (iop_add (by omega))) ?_
       refine LJ_y rfl rfl (YJ_move rfl) ?_
       refine LJ_nil ?_
       refine QJ_roundF (F := fun (i : Nat × MW × Nat) => ⟨[(0, .pointer (some ⟨B, 0, none⟩)), (3, .map (some wm)), (12, .slice h.T tris.length h.ct), (13, .int .i64 tris.length), (14, .int .i64 (n : Nat)), (4, .int .i64 (n : Nat)), (5, .pointer (some ⟨b2, 0, none⟩)), (27, .int .i64 (i.1 : Nat))], [mapR wm fK gI i.2.1 i.2.2, cellsR b2 #[.int .i64 t.v0, .int .i64 t.v1, .int .i64 t.v2, .int .i64 t.n0, .int .i64 t.n1, .int .i64 t.n2, .bool t.f0, .bool t.f1, .bool t.f2] 37], []⟩) (I := fun (i : Nat × MW × Nat) => i.1 ≤ 3 ∧ WI pts tris n (liveE (tris.take n) ++ (edTs t).take i.1) i.2.1 i.2.2) (m := fun (i : Nat × MW × Nat) => 3 - i.1) (i := _) ((k + 1, (mput (edT t k) ((mget (edT t k) L1).getD 0 + 1) L1 c1), mclk (edT t k) L1 c1)) (μd := [_]) ⟨by omega, by dsimp only; rw [edTs_take hk3, ← List.append_assoc]; exact hWI.edge hnew⟩ (by dsimp only; omega) (And.intro rfl (And.intro rfl (And.intro rfl (And.intro rfl (And.intro rfl (And.intro rfl (And.intro rfl (And.intro rfl (trivial))))))))) (permI [1, 1] rfl) (fun _ h => nomatch h) (fun _ h => h)
    ·simp only [decide_eq_false_iff_not] at h28
     have hk3 : 3 = k := by omega
     subst hk3
     refine CJ_exit ?_
     refine QJ_then_exit ?_
     refine QJ_then_exit ?_
     refine QJ_in_exit ?_
     refine QJ_then ?_
     refine CJ_seq ?_
     refine CJ_reg ?_
     refine LJ_y rfl rfl (YJ_move rfl) ?_
     refine LJ_y rfl rfl (YJ_move rfl) ?_
     refine LJ_call0 rfl rfl rfl rfl rfl (beside_c (h := h) (pts := pts) ht (by omega)) (at_mesh (fun r h => h)) ?_
     refine LJ_y rfl rfl (YJ_not rfl) ?_
     refine LJ_nil ?_
     refine QJ_then ?_
     refine CJ_cond rfl (fun h57 => ?_) (fun h57 => ?_)
     ·simp only [Bool.not_eq_true'] at h57
      refine CJ_seq ?_
      refine CJ_reg ?_
      refine LJ_y rfl rfl (YJ_assign rfl) ?_
      refine LJ_nil ?_
      refine QJ_then ?_
      refine CJ_ret ?_
      refine QJ_in_ret ?_
      refine QJ_then_ret ?_
      refine QJ_then_ret ?_
      refine QJ_in_ret ?_
      refine QJ_then_ret ?_
      refine QJ_fin (.inl rfl) (μ' := []) (μr := _) (φ' := []) (res_tmp rfl rfl) (List.Perm.refl _) (fun _ h => nomatch h) ?_
      exact ⟨congrArg Value.bool (bfalse hb (fun q => by have := q.2 n t ht; unfold okT at this; rw [h57, decide_eq_false h26, Bool.or_false, Bool.and_false] at this; cases this)), rfl, rfl⟩
     ·simp only [Bool.not_eq_false'] at h57
      refine CJ_skip ?_
      refine QJ_in_normal ?_
      refine QJ_then ?_
      refine CJ_reg ?_
      refine LJ_y rfl rfl (YJ_bin rfl rfl (iop_add (by omega))) ?_
      refine LJ_y rfl rfl (YJ_move rfl) ?_
      refine LJ_nil ?_
      refine QJ_roundF (F := fun (i : Nat × MW × Nat) => ⟨[(0, .pointer (some ⟨B, 0, none⟩)), (3, .map (some wm)), (12, .slice h.T tris.length h.ct), (13, .int .i64 tris.length), (14, .int .i64 (i.1 : Nat))], [mapR wm fK gI i.2.1 i.2.2], []⟩) (I := fun (i : Nat × MW × Nat) => i.1 ≤ tris.length ∧ WI pts tris i.1 (liveE (tris.take i.1)) i.2.1 i.2.2) (m := fun (i : Nat × MW × Nat) => tris.length - i.1) (i := (n, L0, c0)) ((n + 1, L1, c1)) (μd := [_]) ⟨by omega, hWI.next ht (by unfold okT; rw [h22, h57, Bool.or_true]; rfl) (by rw [liveE_take ht, if_neg h26]; rfl)⟩ (by dsimp only; omega) (And.intro rfl (And.intro rfl (And.intro rfl (And.intro rfl (And.intro rfl (trivial)))))) (permI [] rfl) (fun _ h => nomatch h) (fun _ h => h)
 ·simp only [decide_eq_false_iff_not] at h15
  have hn9 : n = tris.length := by omega
  subst hn9
  have hsnd : sndP pts tris := ⟨by have := hWI0.nd; rw [List.take_length] at this; exact this, fun q t hq => hWI0.ok q t (List.getElem?_eq_some_iff.1 hq).1 hq⟩
  obtain ⟨hst, har⟩ := hs hsnd
  refine CJ_exit ?_
  refine QJ_then_exit ?_
  refine QJ_then_exit ?_
  refine QJ_in_exit ?_
  refine QJ_then ?_
  refine CJ_seq ?_
  refine CJ_reg ?_
  refine LJ_y rfl rfl (YJ_move rfl) ?_
  refine LJ_call0 rfl rfl rfl rfl rfl (stars_c hna hlen hal hst) (fun r h => h) ?_
  refine LJ_y rfl rfl (YJ_move rfl) ?_
  refine LJ_bool (c := true) rfl ?_
  refine LJ_y rfl rfl (YJ_move rfl) ?_
  refine LJ_call0 rfl rfl rfl rfl rfl (area_c (h := h) hP (okTris_of hv) hlen rfl har.lv har.cv har.sum) (at_mesh (fun r h => h)) ?_
  refine LJ_y rfl rfl (YJ_pickT rfl rfl) ?_
  refine LJ_y rfl rfl (YJ_assign rfl) ?_
  refine LJ_nil ?_
  refine QJ_then ?_
  refine CJ_ret ?_
  refine QJ_fin (.inl rfl) (μ' := []) (μr := _) (φ' := []) (res_tmp rfl rfl) (List.Perm.refl _) (fun _ h => nomatch h) ?_
  exact ⟨congrArg Value.bool (hb.2 hsnd).symm, rfl, rfl⟩
end Go.Proofs.Ytbanlhlggkdanaa
namespace Go.Proofs.Ytbanlhlggkdanaa
open Go.RowKit
theorem idx3 (x y z v : Int) : Lib.idxOf [x, y, z] v = if x = v then 0 else if y = v then 1 else if z = v then 2 else -1 := by
 simp only [Lib.idxOf, Lib.idxFrom]
 by_cases h1 : x = v
 ·simp [h1]
 ·by_cases h2 : y = v
  ·simp [h1, h2]
  ·by_cases h3 : z = v <;> simp [h1, h2, h3]
theorem plc_eq (t : Tr) (v : Int) : plc t v = if t.v0 = v then 0 else if t.v1 = v then 1 else if t.v2 = v then 2 else -1 := idx3 ..
theorem plc_has {t : Tr} {v : Int} {k : Nat} (hk : k < 3) (h : t.v k = v) : ∃ p : Nat, plc t v = p ∧ p < 3 ∧ t.v p = v := by
 rw [plc_eq]
 by_cases h0 : t.v0 = v
 ·exact ⟨0, by rw [if_pos h0]; rfl, by decide, h0⟩
 ·rw [if_neg h0]
  by_cases h1 : t.v1 = v
  ·exact ⟨1, by rw [if_pos h1]; rfl, by decide, h1⟩
  ·rw [if_neg h1]
   by_cases h2 : t.v2 = v
   ·exact ⟨2, by rw [if_pos h2]; rfl, by decide, h2⟩
   ·exfalso
    match k, hk with
    | 0, _ => exact h0 h
    | 1, _ => exact h1 h
    | 2, _ => exact h2 h
theorem besI_iff {tris : List Tr} {t : Tr} {n : Int} {i : Nat} (h : besI tris t n i = true) : 0 ≤ t.n i ∧ ∃ (o : Tr) (j : Nat), tris[(t.n i).toNat]? = some o ∧ j < 3 ∧ o.v ((j + 1) % 3) = t.v ((i + 2) % 3) ∧ o.v ((j + 2) % 3) = t.v ((i + 1) % 3) ∧ o.n j = n ∧ o.fl j = t.fl i := by
 unfold besI at h
 split at h
 ·cases h
 ·rename_i hn
  have h0 : 0 ≤ t.n i := by omega
  cases ho : tris[(t.n i).toNat]? with
  | none => rw [ho] at h; cases h
  | some o =>
   rw [ho] at h
   dsimp only at h
   refine ⟨h0, o, ?_⟩
   have step : ∀ (f : Bool) (j : Nat), besF o t n i f j = true → (o.v ((j + 1) % 3) = t.v ((i + 2) % 3) ∧ o.v ((j + 2) % 3) = t.v ((i + 1) % 3) ∧ o.n j = n ∧ o.fl j = t.fl i) ∨ f = true := by
    intro f j q
    unfold besF at q
    split at q
    ·rename_i p
     rw [Bool.and_eq_true, decide_eq_true_eq, beq_iff_eq] at q
     exact .inl ⟨p.1, p.2, q.1, q.2⟩
    ·exact .inr q
   have h2 : besF o t n i (besF o t n i (besF o t n i false 0) 1) 2 = true := h
   rcases step _ _ h2 with q | q
   ·exact ⟨2, rfl, by decide, q⟩
   ·rcases step _ _ q with q | q
    ·exact ⟨1, rfl, by decide, q⟩
    ·rcases step _ _ q with q | q
     ·exact ⟨0, rfl, by decide, q⟩
     ·cases q
theorem besB_iff {tris : List Tr} {t : Tr} {n : Int} {i : Nat} (h : besB tris t n = true) (hi : i < 3) : besI tris t n i = true := by
 unfold besB at h
 rw [Bool.and_eq_true, Bool.and_eq_true] at h
 match i, hi with
 | 0, _ => exact h.1
 | 1, _ => exact h.2.1
 | 2, _ => exact h.2.2
theorem gone_all {pts : List (Int × Int)} {t : Tr} (h : madeB pts t = true) (h0 : t.v0 = -2) : ∀ k, k < 3 → t.v k = -2 := by
 have e0 : t.v 0 = t.v0 := rfl
 have e1 : t.v 1 = t.v1 := rfl
 have e2 : t.v 2 = t.v2 := rfl
 have hc : cntv t (-2) 3 = (if t.v0 = -2 then 1 else 0) + (if t.v1 = -2 then 1 else 0) + (if t.v2 = -2 then 1 else 0) := by
  simp only [cntv, e0, e1, e2, Int.zero_add]
 unfold madeB at h
 rw [if_pos (by rw [hc, if_pos h0]; (repeat' split) <;> omega), decide_eq_true_eq, hc, if_pos h0] at h
 intro k hk
 match k, hk with
 | 0, _ => exact h0
 | 1, _ => rw [e1]; (repeat' split at h) <;> omega
 | 2, _ => rw [e2]; (repeat' split at h) <;> omega
theorem snd_cl {pts : List (Int × Int)} {tris : List Tr} (h : sndP pts tris) (v : Int) (n k : Nat) (t : Tr) (hv : v ≠ -2) (ht : tris[n]? = some t) (hk : k < 3) (he : t.v k = v) : ∃ S : Int → Prop, S (n : Int) ∧ ∀ x, S x → 0 ≤ x ∧ ∃ (t : Tr) (p : Nat), tris[x.toNat]? = some t ∧ plc t v = p ∧ p < 3 ∧ S (t.n ((p + 1) % 3)) := by
 refine ⟨fun x => 0 ≤ x ∧ ∃ (t : Tr) (k : Nat), tris[x.toNat]? = some t ∧ k < 3 ∧ t.v k = v, ⟨Int.natCast_nonneg n, t, k, by simpa using ht, hk, he⟩, ?_⟩
 rintro x ⟨hx, u, j, hu, hj, huv⟩
 obtain ⟨p, hp, hp3, hpv⟩ := plc_has hj huv
 refine ⟨hx, u, p, hu, hp, hp3, ?_⟩
 have hok := h.2 _ _ hu
 unfold okT at hok
 rw [Bool.and_eq_true, Bool.or_eq_true, decide_eq_true_eq] at hok
 have hb : besB tris u ((x.toNat : Nat) : Int) = true := by
  rcases hok.2 with q | q
  ·exact absurd (gone_all hok.1 q j hj) (by rw [huv]; exact hv)
  ·exact q
 obtain ⟨h0, o, j', ho, hj', e1, e2, _⟩ := besI_iff (besB_iff hb (Nat.mod_lt (p + 1) (by decide : 0 < 3)))
 refine ⟨h0, o, (j' + 1) % 3, ho, Nat.mod_lt _ (by decide), ?_⟩
 rw [e1, show ((p + 1) % 3 + 2) % 3 = p by omega]
 exact hpv
theorem rnd_is {tris : List Tr} {v fr : Int} {m M : Nat} (h : RndOk tris v fr m) (h1 : 1 ≤ M) (h2 : M ≤ tris.length) (h3 : itr tris v M fr = fr) (h4 : ∀ j, 0 < j → j < M → itr tris v j fr ≠ fr) : m = M := by
 have a := h.one
 have b : m ≤ M := by
  apply Classical.byContradiction
  intro q
  exact h.no M h1 (by omega) h3
 rcases h.fin with q | q
 ·apply Classical.byContradiction
  intro r
  exact h4 m a (by omega) q
 ·omega
theorem pA_ne {pts : List (Int × Int)} {a b c : Nat} (h : 0 < pA pts a b c) : a ≠ b ∧ b ≠ c ∧ c ≠ a := by
 unfold pA A2 det at h
 refine ⟨?_, ?_, ?_⟩
 ·rintro rfl; simp at h
 ·rintro rfl
  rw [Int.mul_comm] at h
  omega
 ·rintro rfl; simp at h
section
variable {pts : List (Int × Int)} {a b c : Nat}
theorem new_nxt (h1 : a ≠ b) (h2 : b ≠ c) (h3 : c ≠ a) :
  (nxt (triNew a b c) a 0 = 2 ∧ nxt (triNew a b c) a 2 = 3 ∧ nxt (triNew a b c) a 3 = 0) ∧ (nxt (triNew a b c) b 0 = 3 ∧ nxt (triNew a b c) b 3 = 1 ∧ nxt (triNew a b c) b 1 = 0) ∧
  (nxt (triNew a b c) c 0 = 1 ∧ nxt (triNew a b c) c 1 = 2 ∧ nxt (triNew a b c) c 2 = 0) ∧ (nxt (triNew a b c) (-1) 1 = 3 ∧ nxt (triNew a b c) (-1) 3 = 2 ∧ nxt (triNew a b c) (-1) 2 = 1) := by
 have e1 : ¬ (b : Int) = a := by omega
 have e2 : ¬ (c : Int) = b := by omega
 have e3 : ¬ (a : Int) = c := by omega
 have e4 : ¬ (a : Int) = b := by omega
 have e5 : ¬ (b : Int) = c := by omega
 have e6 : ¬ (c : Int) = a := by omega
 have f1 : ¬ (a : Int) = -1 := by omega
 have f2 : ¬ (b : Int) = -1 := by omega
 have f3 : ¬ (c : Int) = -1 := by omega
 refine ⟨⟨?_, ?_, ?_⟩, ⟨?_, ?_, ?_⟩, ⟨?_, ?_, ?_⟩, ⟨?_, ?_, ?_⟩⟩ <;> simp [nxt, triNew, plc_eq, e1, e2, e3, e4, e5, e6, f1, f2, f3] <;> rfl
theorem new_cnt (h1 : a ≠ b) (h2 : b ≠ c) (h3 : c ≠ a) (v : Int) : cntA v (triNew a b c) = if v = a ∨ v = b ∨ v = c ∨ v = -1 then 3 else 0 := by
 simp only [triNew, cntA, cntv, Tr.v, at3]
 simp only [reduceIte, show ¬ (1 : Nat) = 0 by decide, show ¬ (2 : Nat) = 0 by decide, show ¬ (2 : Nat) = 1 by decide]
 (repeat' split) <;> omega
theorem new_mem {t : Tr} {n : Nat} (h : (triNew a b c)[n]? = some t) : (n = 0 ∧ t = ⟨a, b, c, 1, 2, 3, false, false, false⟩) ∨ (n = 1 ∧ t = ⟨c, b, -1, 3, 2, 0, false, false, false⟩) ∨ (n = 2 ∧ t = ⟨a, c, -1, 1, 3, 0, false, false, false⟩) ∨ (n = 3 ∧ t = ⟨b, a, -1, 2, 1, 0, false, false, false⟩) := by
 match n with
 | 0 => left; exact ⟨rfl, (Option.some.inj h).symm⟩
 | 1 => right; left; exact ⟨rfl, (Option.some.inj h).symm⟩
 | 2 => right; right; left; exact ⟨rfl, (Option.some.inj h).symm⟩
 | 3 => right; right; right; exact ⟨rfl, (Option.some.inj h).symm⟩
 | n + 4 => simp [triNew] at h
theorem new_snd (ha : a < pts.length) (hb : b < pts.length) (hc : c < pts.length) (hA : 0 < pA pts a b c) : sndP pts (triNew a b c) := by
 obtain ⟨h1, h2, h3⟩ := pA_ne hA
 have e1 : ¬ (b : Int) = a := by omega
 have e2 : ¬ (c : Int) = b := by omega
 have e3 : ¬ (a : Int) = c := by omega
 have e4 : ¬ (a : Int) = b := by omega
 have e5 : ¬ (b : Int) = c := by omega
 have e6 : ¬ (c : Int) = a := by omega
 have f1 : ¬ (a : Int) = -1 := by omega
 have f2 : ¬ (b : Int) = -1 := by omega
 have f3 : ¬ (c : Int) = -1 := by omega
 have g1 : ¬ (a : Int) = -2 := by omega
 have g2 : ¬ (b : Int) = -2 := by omega
 have g3 : ¬ (c : Int) = -2 := by omega
 have k1 : ¬ (-1 : Int) = a := by omega
 have k2 : ¬ (-1 : Int) = b := by omega
 have k3 : ¬ (-1 : Int) = c := by omega
 refine ⟨?_, fun n t hn => ?_⟩
 ·simp [liveE, triNew, edTs, edT, Tr.v, at3, g1, g2, g3, e1, e2, e3, e4, e5, e6, f1, f2, f3, k1, k2, k3]
 ·unfold okT
  rw [Bool.and_eq_true]
  have hA' : 0 < A2 (ptAt pts a).1 (ptAt pts a).2 (ptAt pts b).1 (ptAt pts b).2 (ptAt pts c).1 (ptAt pts c).2 := hA
  rcases new_mem hn with ⟨rfl, rfl⟩ | ⟨rfl, rfl⟩ | ⟨rfl, rfl⟩ | ⟨rfl, rfl⟩ <;> refine ⟨?_, ?_⟩
  ·simp [madeB, cntv, Tr.v, at3, f1, f2, f3, g1, g2, g3, hA']
  ·simp [besB, besI, besF, triNew, Tr.v, Tr.n, Tr.fl, at3, e1, e2, e3, e4, e5, e6, f1, f2, f3, k1, k2, k3]
  ·simp [madeB, cntv, Tr.v, at3, f1, f2, f3, g1, g2, g3]
  ·simp [besB, besI, besF, triNew, Tr.v, Tr.n, Tr.fl, at3, e1, e2, e3, e4, e5, e6, f1, f2, f3, k1, k2, k3]
  ·simp [madeB, cntv, Tr.v, at3, f1, f2, f3, g1, g2, g3]
  ·simp [besB, besI, besF, triNew, Tr.v, Tr.n, Tr.fl, at3, e1, e2, e3, e4, e5, e6, f1, f2, f3, k1, k2, k3]
  ·simp [madeB, cntv, Tr.v, at3, f1, f2, f3, g1, g2, g3]
  ·simp [besB, besI, besF, triNew, Tr.v, Tr.n, Tr.fl, at3, e1, e2, e3, e4, e5, e6, f1, f2, f3, k1, k2, k3]
end
end Go.Proofs.Ytbanlhlggkdanaa
namespace Go.Proofs.Ytbanlhlggkdanaa
open Go.RowKit
theorem rnd3 {tris : List Tr} {v x y z : Int} {m : Nat} (h : RndOk tris v x m) (h1 : nxt tris v x = y) (h2 : nxt tris v y = z) (h3 : nxt tris v z = x) (n1 : y ≠ x) (n2 : z ≠ x) (hl : 3 ≤ tris.length) : m = 3 := by
 refine rnd_is h (by decide) hl ?_ ?_
 ·show nxt tris v (nxt tris v (nxt tris v x)) = x
  rw [h1, h2, h3]
 ·intro j h0 hj
  have : j = 1 ∨ j = 2 := by omega
  rcases this with rfl | rfl
  ·show nxt tris v x ≠ x
   rw [h1]; exact n1
  ·show nxt tris v (nxt tris v x) ≠ x
   rw [h1, h2]; exact n2
theorem setAt_at {l : List Int} {v n : Int} {p : Nat} (h1 : p < l.length) : (setAt l v n)[p]? = if v = p then some n else l[p]? := by
 unfold setAt
 split
 ·rw [List.getElem?_set]
  by_cases q : v = p
  ·subst q; rw [if_pos rfl, if_pos (by simp), if_pos (by simpa using h1)]
  ·rw [if_neg (by omega), if_neg q]
 ·rw [if_neg (by omega)]
section
variable {pts : List (Int × Int)} {a b c : Nat}
theorem new_ats (pts : List (Int × Int)) (a b c : Int) : (newM pts a b c).ats = setAt (setAt (setAt (setAt (setAt (setAt (setAt (setAt (setAt (setAt (setAt (setAt (List.replicate pts.length (-1)) a 0) b 0) c 0) c 1) b 1) (-1) 1) a 2) c 2) (-1) 2) b 3) a 3) (-1) 3 := rfl
theorem new_at (h1 : a ≠ b) (h2 : b ≠ c) (h3 : c ≠ a) {v : Nat} (hv : v < pts.length) : (newM pts a b c).ats[v]? = some (if v = a then 3 else if v = b then 3 else if v = c then 2 else -1) := by
 rw [new_ats]
 iterate 12 rw [setAt_at (by simp only [setAt_len, List.length_replicate]; exact hv)]
 rw [List.getElem?_replicate, if_pos hv]
 by_cases e1 : v = a
 ·rw [if_pos e1, if_neg (by omega), if_pos (by omega)]
 ·rw [if_neg e1, if_neg (by omega), if_neg (by omega)]
  by_cases e2 : v = b
  ·rw [if_pos e2, if_pos (by omega)]
  ·rw [if_neg e2, if_neg (by omega), if_neg (by omega)]
   by_cases e3 : v = c
   ·rw [if_pos e3, if_pos (by omega)]
   ·rw [if_neg e3]
    (repeat' split) <;> first | rfl | omega
theorem new_len (pts : List (Int × Int)) (a b c : Int) : (newM pts a b c).ats.length = pts.length := by
 rw [new_ats]
 simp only [setAt_len, List.length_replicate]
theorem new_st (hA : 0 < pA pts a b c) (hs : sndP pts (triNew a b c)) : StOk (triNew a b c) (newM pts a b c).ats := by
 obtain ⟨h1, h2, h3⟩ := pA_ne hA
 obtain ⟨⟨a1, a2, a3⟩, ⟨b1, b2, b3⟩, ⟨c1, c2, c3⟩, ⟨g1, g2, g3⟩⟩ := new_nxt h1 h2 h3
 have hl : 3 ≤ (triNew a b c).length := show 3 ≤ 4 by decide
 have hA : cntA (a : Int) (triNew a b c) = 3 := by rw [new_cnt h1 h2 h3, if_pos (.inl rfl)]
 have hB : cntA (b : Int) (triNew a b c) = 3 := by rw [new_cnt h1 h2 h3, if_pos (.inr (.inl rfl))]
 have hC : cntA (c : Int) (triNew a b c) = 3 := by rw [new_cnt h1 h2 h3, if_pos (.inr (.inr (.inl rfl)))]
 have hG : cntA (-1 : Int) (triNew a b c) = 3 := by rw [new_cnt h1 h2 h3, if_pos (.inr (.inr (.inr rfl)))]
 refine ⟨snd_cl hs, fun v n k t m hv hn hk he hr => ?_, fun v x hx => ?_, by rw [hG]; decide⟩
 ·rcases new_mem hn with ⟨rfl, rfl⟩ | ⟨rfl, rfl⟩ | ⟨rfl, rfl⟩ | ⟨rfl, rfl⟩
  ·match k, hk with
   | 0, _ => obtain rfl : (a : Int) = v := he; rw [hA, rnd3 hr a1 a2 a3 (by decide) (by decide) hl]; rfl
   | 1, _ => obtain rfl : (b : Int) = v := he; rw [hB, rnd3 hr b1 b2 b3 (by decide) (by decide) hl]; rfl
   | 2, _ => obtain rfl : (c : Int) = v := he; rw [hC, rnd3 hr c1 c2 c3 (by decide) (by decide) hl]; rfl
  ·match k, hk with
   | 0, _ => obtain rfl : (c : Int) = v := he; rw [hC, rnd3 hr c2 c3 c1 (by decide) (by decide) hl]; rfl
   | 1, _ => obtain rfl : (b : Int) = v := he; rw [hB, rnd3 hr b3 b1 b2 (by decide) (by decide) hl]; rfl
   | 2, _ => obtain rfl : (-1 : Int) = v := he; rw [hG, rnd3 hr g1 g2 g3 (by decide) (by decide) hl]; rfl
  ·match k, hk with
   | 0, _ => obtain rfl : (a : Int) = v := he; rw [hA, rnd3 hr a2 a3 a1 (by decide) (by decide) hl]; rfl
   | 1, _ => obtain rfl : (c : Int) = v := he; rw [hC, rnd3 hr c3 c1 c2 (by decide) (by decide) hl]; rfl
   | 2, _ => obtain rfl : (-1 : Int) = v := he; rw [hG, rnd3 hr g3 g1 g2 (by decide) (by decide) hl]; rfl
  ·match k, hk with
   | 0, _ => obtain rfl : (b : Int) = v := he; rw [hB, rnd3 hr b2 b3 b1 (by decide) (by decide) hl]; rfl
   | 1, _ => obtain rfl : (a : Int) = v := he; rw [hA, rnd3 hr a3 a1 a2 (by decide) (by decide) hl]; rfl
   | 2, _ => obtain rfl : (-1 : Int) = v := he; rw [hG, rnd3 hr g2 g3 g1 (by decide) (by decide) hl]; rfl
 ·have hvl : v < pts.length := by
   have := (List.getElem?_eq_some_iff.1 hx).1
   rw [new_len] at this
   exact this
  rw [new_at h1 h2 h3 hvl] at hx
  have hx := (Option.some.inj hx).symm
  rw [new_cnt h1 h2 h3]
  by_cases e1 : v = a
  ·rw [if_pos e1] at hx
   subst hx; subst e1
   refine ⟨?_, show _ < ((4 : Nat) : Int) by decide, fun _ => ⟨_, rfl, ?_⟩⟩
   ·rw [if_pos (.inl rfl)]; decide
   ·rw [plc_eq]; dsimp only; (repeat' split) <;> omega
  ·rw [if_neg e1] at hx
   by_cases e2 : v = b
   ·rw [if_pos e2] at hx
    subst hx; subst e2
    refine ⟨?_, show _ < ((4 : Nat) : Int) by decide, fun _ => ⟨_, rfl, ?_⟩⟩
    ·rw [if_pos (.inr (.inl rfl))]; decide
    ·rw [plc_eq]; dsimp only; (repeat' split) <;> omega
   ·rw [if_neg e2] at hx
    by_cases e3 : v = c
    ·rw [if_pos e3] at hx
     subst hx; subst e3
     refine ⟨?_, show _ < ((4 : Nat) : Int) by decide, fun _ => ⟨_, rfl, ?_⟩⟩
     ·rw [if_pos (.inr (.inr (.inl rfl)))]; decide
     ·rw [plc_eq]; dsimp only; (repeat' split) <;> omega
    ·rw [if_neg e3] at hx
     subst hx
     refine ⟨?_, show _ < ((4 : Nat) : Int) by decide, fun q => absurd q (by decide)⟩
     rw [if_neg (by omega)]
     decide
end
theorem A2_cyc (a1 a2 b1 b2 c1 c2 : Int) : A2 b1 b2 c1 c2 a1 a2 = A2 a1 a2 b1 b2 c1 c2 := by
 unfold A2 det
 grind
theorem A2_self (a1 a2 b1 b2 : Int) : A2 a1 a2 a1 a2 b1 b2 = 0 ∧ A2 a1 a2 b1 b2 a1 a2 = 0 ∧ A2 b1 b2 a1 a2 a1 a2 = 0 := by
 unfold A2 det
 refine ⟨?_, ?_, ?_⟩ <;> grind
section
variable {pts : List (Int × Int)} {a b c : Nat}
theorem new_hull (h1 : a ≠ b) (h2 : b ≠ c) (h3 : c ≠ a) (ha : a < pts.length) (hb : b < pts.length) (hc : c < pts.length) : ∃ x y z : Nat, hullOf (triNew a b c) (pts.length : Nat) = [(x : Int), (y : Int), (z : Int)] ∧ (x = a ∧ y = b ∧ z = c ∨ x = b ∧ y = c ∧ z = a ∨ x = c ∧ y = a ∧ z = b) ∧ x = min a (min b c) := by
 have e1 : ¬ (b : Int) = a := by omega
 have e2 : ¬ (c : Int) = b := by omega
 have e3 : ¬ (a : Int) = c := by omega
 have e4 : ¬ (a : Int) = b := by omega
 have e5 : ¬ (b : Int) = c := by omega
 have e6 : ¬ (c : Int) = a := by omega
 have hr : reals (triNew a b c) = [(0, ⟨a, b, c, 1, 2, 3, false, false, false⟩)] := by simp [reals, triNew, realsF, Tr.real]
 have i1 : ¬ isReal (triNew a b c) 1 := by rintro ⟨_, t, ht, hr⟩; simp [triNew] at ht; subst ht; simp [Tr.real] at hr
 have i2 : ¬ isReal (triNew a b c) 2 := by rintro ⟨_, t, ht, hr⟩; simp [triNew] at ht; subst ht; simp [Tr.real] at hr
 have i3 : ¬ isReal (triNew a b c) 3 := by rintro ⟨_, t, ht, hr⟩; simp [triNew] at ht; subst ht; simp [Tr.real] at hr
 have hM : hullM (triNew a b c) (pts.length : Nat) = ([((b : Int), (c : Int), 0), ((c : Int), (a : Int), 1), ((a : Int), (b : Int), 2)], 3, min (min (min (pts.length : Int) b) c) a) := by
  unfold hullM
  rw [hr]
  simp [hullT, hullE, Tr.n, Tr.v, at3, i1, i2, i3, mput, mclk, mfind, e2, e3, e4, e5, e6, e1]
 have hW : hullOf (triNew a b c) (pts.length : Nat) = [itN [((b : Int), (c : Int), 0), ((c : Int), (a : Int), 1), ((a : Int), (b : Int), 2)] 0 (min (min (min (pts.length : Int) b) c) a), itN [((b : Int), (c : Int), 0), ((c : Int), (a : Int), 1), ((a : Int), (b : Int), 2)] 1 (min (min (min (pts.length : Int) b) c) a), itN [((b : Int), (c : Int), 0), ((c : Int), (a : Int), 1), ((a : Int), (b : Int), 2)] 2 (min (min (min (pts.length : Int) b) c) a)] := by
  unfold hullOf
  rw [hM]
  rfl
 have ga : mget (a : Int) [((b : Int), (c : Int), 0), ((c : Int), (a : Int), 1), ((a : Int), (b : Int), 2)] = some (b : Int) := by rw [mget_cons, if_neg e4, mget_cons, if_neg e3, mget_cons, if_pos rfl]
 have gb : mget (b : Int) [((b : Int), (c : Int), 0), ((c : Int), (a : Int), 1), ((a : Int), (b : Int), 2)] = some (c : Int) := by rw [mget_cons, if_pos rfl]
 have gc : mget (c : Int) [((b : Int), (c : Int), 0), ((c : Int), (a : Int), 1), ((a : Int), (b : Int), 2)] = some (a : Int) := by rw [mget_cons, if_neg e2, mget_cons, if_pos rfl]
 rw [hW]
 generalize [((b : Int), (c : Int), 0), ((c : Int), (a : Int), 1), ((a : Int), (b : Int), 2)] = L at *
 have hmin : min (min (min (pts.length : Int) b) c) a = ((min a (min b c) : Nat) : Int) := by omega
 rw [hmin]
 have hcase : min a (min b c) = a ∨ min a (min b c) = b ∨ min a (min b c) = c := by omega
 rcases hcase with q | q | q <;> rw [q]
 ·refine ⟨a, b, c, ?_, .inl ⟨rfl, rfl, rfl⟩, rfl⟩
  simp [itN, ga, gb]
 ·refine ⟨b, c, a, ?_, .inr (.inl ⟨rfl, rfl, rfl⟩), rfl⟩
  simp [itN, gb, gc]
 ·refine ⟨c, a, b, ?_, .inr (.inr ⟨rfl, rfl, rfl⟩), rfl⟩
  simp [itN, gc, ga]
theorem new_ar (ha : a < pts.length) (hb : b < pts.length) (hc : c < pts.length) (hA : 0 < pA pts a b c) : ArOk pts (triNew a b c) := by
 obtain ⟨h1, h2, h3⟩ := pA_ne hA
 obtain ⟨x, y, z, hh, hx, _⟩ := new_hull h1 h2 h3 ha hb hc
 have hr : reals (triNew a b c) = [(0, ⟨a, b, c, 1, 2, 3, false, false, false⟩)] := by simp [reals, triNew, realsF, Tr.real]
 have hS : A2p pts x y z = A2p pts a b c := by
  rcases hx with ⟨rfl, rfl, rfl⟩ | ⟨rfl, rfl, rfl⟩ | ⟨rfl, rfl, rfl⟩
  ·rfl
  ·exact A2_cyc ..
  ·exact (A2_cyc ..).symm
 have hA' : 0 < A2p pts x y z := by rw [hS]; exact hA
 have hA2 : 0 < A2p pts y z x := by
  rw [show A2p pts y z x = A2p pts x y z from A2_cyc ..]; exact hA'
 have hA3 : 0 < A2p pts z x y := by
  rw [show A2p pts z x y = A2p pts y z x from A2_cyc ..]; exact hA2
 have s1 : ∀ u v : Int, A2p pts u u v = 0 := fun u v => (A2_self ..).1
 have s2 : ∀ u v : Int, A2p pts u v u = 0 := fun u v => (A2_self ..).2.1
 have s3 : ∀ u v : Int, A2p pts v u u = 0 := fun u v => (A2_self ..).2.2
 refine ⟨?_, ?_, ?_⟩ <;> rw [hh]
 ·intro v hv
  simp only [List.mem_cons, List.not_mem_nil, or_false] at hv
  omega
 ·intro i p q r hp hq hr'
  simp only [List.mem_cons, List.not_mem_nil, or_false] at hr'
  have hi : i < 3 := (List.getElem?_eq_some_iff.1 hp).1
  match i, hi with
  | 0, _ =>
   obtain rfl : (x : Int) = p := Option.some.inj hp
   obtain rfl : (y : Int) = q := Option.some.inj hq
   rcases hr' with rfl | rfl | rfl
   ·rw [s2]; exact Int.le_refl _
   ·rw [s3]; exact Int.le_refl _
   ·omega
  | 1, _ =>
   obtain rfl : (y : Int) = p := Option.some.inj hp
   obtain rfl : (z : Int) = q := Option.some.inj hq
   rcases hr' with rfl | rfl | rfl
   ·omega
   ·rw [s2]; exact Int.le_refl _
   ·rw [s3]; exact Int.le_refl _
  | 2, _ =>
   obtain rfl : (z : Int) = p := Option.some.inj hp
   obtain rfl : (x : Int) = q := by simpa using hq
   rcases hr' with rfl | rfl | rfl
   ·rw [s3]; exact Int.le_refl _
   ·omega
   ·rw [s2]; exact Int.le_refl _
 ·rw [hr]
  have e : outA pts [(x : Int), (y : Int), (z : Int)] 3 = A2p pts x x y + A2p pts x y z + A2p pts x z x := by
   rw [outA_succ, outA_succ, outA_succ, show outA pts [(x : Int), (y : Int), (z : Int)] 0 = 0 from rfl, Int.zero_add]
   have q0 : outT pts [(x : Int), (y : Int), (z : Int)] 0 = A2p pts x x y := rfl
   have q1 : outT pts [(x : Int), (y : Int), (z : Int)] 1 = A2p pts x y z := rfl
   have q2 : outT pts [(x : Int), (y : Int), (z : Int)] 2 = A2p pts x z x := by
    unfold outT
    rw [show (2 + 1) % [(x : Int), (y : Int), (z : Int)].length = 0 from by simp]
    rfl
   rw [q0, q1, q2]
  show sumA pts _ = outA pts [(x : Int), (y : Int), (z : Int)] 3
  rw [e, s1, s2, hS]
  simp [sumA]
end
end Go.Proofs.Ytbanlhlggkdanaa
namespace Go.Proofs.Ytbanlhlggkdanaa
open Go.RowKit
theorem ent_27 : Enter Try.prog 27 = true := by kernel_rfl
theorem frz_at {B : Nat} {M : MD} {h : Mh} {φ : List Res} : ∀ r, r ∈ atFs B h M.pts M.tris M.ats → r ∈ frzFs B M h ++ φ := fun r hr => List.mem_append_left _ (by
 simp only [frzFs, meshFs, atFs, List.mem_cons, List.not_mem_nil, or_false, List.mem_append] at *
 rcases hr with h | h | h | h
 ·exact .inl (.inl h)
 ·exact .inl (.inr (.inl h))
 ·exact .inl (.inr (.inr h))
 ·exact .inr (.inr h))
theorem vOk_of {n : Nat} {t : Tr} (h0 : t.v0 = -1 ∨ t.v0 = -2 ∨ (0 ≤ t.v0 ∧ t.v0 < n)) (h1 : t.v1 = -1 ∨ t.v1 = -2 ∨ (0 ≤ t.v1 ∧ t.v1 < n)) (h2 : t.v2 = -1 ∨ t.v2 = -2 ∨ (0 ≤ t.v2 ∧ t.v2 < n)) : vOk n t := fun k hk => match k, hk with
 | 0, _ => h0
 | 1, _ => h1
 | 2, _ => h2
theorem vOk_new {n a b c : Nat} (ha : a < n) (hb : b < n) (hc : c < n) : ∀ t, t ∈ triNew a b c → vOk n t := fun t ht => by
 simp only [triNew, List.mem_cons, List.not_mem_nil, or_false] at ht
 rcases ht with rfl | rfl | rfl | rfl <;> exact vOk_of (by dsimp only; omega) (by dsimp only; omega) (by dsimp only; omega)
theorem new_sound {B : Nat} {h : Mh} {pts : List (Int × Int)} {a b c : Nat} (hP : ∀ j, j < pts.length → P2 (pts.getD j (0, 0)).1 (pts.getD j (0, 0)).2) (hl : pts.length ≤ 1000000) (ha : a < pts.length) (hb : b < pts.length) (hc : c < pts.length) (hA : 0 < pA pts a b c) (hna : h.na = (newM pts a b c).ats.length) :
  Tri Try.prog 31 [.pointer (some ⟨B, 0, none⟩)] [] (atFs B h pts (triNew a b c) (newM pts a b c).ats) (Ret0 (.bool true)) :=
 sound_c hP (vOk_new ha hb hc) hna (show 4 ≤ 1000000 by decide) (by rw [new_len]; exact hl) (fun q => ⟨new_st hA q, new_ar ha hb hc hA⟩) ⟨fun _ => new_snd ha hb hc hA, fun _ => rfl⟩
abbrev fitQ : List (Int × Int) := [(0, 0), (1, 0), (0, 1)]
theorem fitQ_ok : ∀ j, j < fitQ.length → P2 (fitQ.getD j (0, 0)).1 (fitQ.getD j (0, 0)).2 := by
 intro j hj
 have : j = 0 ∨ j = 1 ∨ j = 2 := by simp at hj; omega
 rcases this with rfl | rfl | rfl <;> exact by unfold P2 Tm; simp
set_option maxRecDepth 100000 in
set_option maxHeartbeats 4000000 in
theorem fit9_c  : Tri Try.prog 27 [] [] [] (Ret0 (.bool true)) := by
 refine Tri_of (N := 48) Try.func27 rfl ent_27 rfl rfl ?_
 intro w0 S0 T0
 show CJ _ _ _ [] _ _
 refine CJ_seq ?_
 refine CJ_reg ?_
 refine LJ_y rfl rfl (YJ_assign rfl) ?_
 refine LJ_nil ?_
 refine QJ_then ?_
 refine CJ_seq ?_
 refine CJ_reg ?_
 refine LJ_y rfl rfl (YJ_build1 (cs := [_, _]) lay_23 rfl rfl rfl) ?_
 refine LJ_y rfl rfl (YJ_build1 (cs := [_, _]) lay_23 rfl rfl rfl) ?_
 refine LJ_y rfl rfl (YJ_build1 (cs := [_, _]) lay_23 rfl rfl rfl) ?_
 refine LJ_buildSliceN (vs := [_, _, _]) (cs := [_, _, _, _, _, _]) rfl rfl elt_26 zer_23 (by decide) (by decide) rfl rfl rfl rfl rfl ?_
 intro b1
 refine LJ_freeze ?_
 refine LJ_addF (r' := sliceR 2 (some ⟨b1, 0, none⟩) 3 (ptCells fitQ)) (.head _) (fun w S h => cellsR_slice (n := 3) rfl w S h) ?_
 refine LJ_callN rfl rfl rfl rfl rfl (new_pos (pts := fitQ) (a := 0) (b := 1) (c := 2) (by decide) (by decide) (by decide) (by decide) fitQ_ok (by decide)) (fun r h => by rw [List.mem_singleton] at h; subst h; exact .head _) ?_
 intro Bm _
 refine LJ_freezeMesh (fun hm hmF hmA => ?_)
 refine LJ_y rfl rfl (YJ_move rfl) ?_
 refine LJ_y rfl rfl (YJ_extract rfl rfl) ?_
 refine LJ_y rfl rfl (YJ_extract rfl rfl) ?_
 refine LJ_y rfl rfl (YJ_assign rfl) ?_
 refine LJ_y rfl rfl (YJ_assign rfl) ?_
 refine LJ_nil ?_
 refine QJ_then ?_
 refine CJ_seq ?_
 refine CJ_seq ?_
 refine CJ_reg ?_
 refine LJ_y rfl rfl (YJ_move rfl) ?_
 refine LJ_y rfl rfl (YJ_not rfl) ?_
 refine LJ_y rfl rfl (YJ_move rfl) ?_
 refine LJ_bool (c := false) rfl ?_
 refine LJ_y rfl rfl (YJ_move rfl) ?_
 refine LJ_y rfl rfl (YJ_eqs rfl rfl (fun w => eqs_ptr ..)) ?_
 refine LJ_y rfl rfl (YJ_pickF rfl rfl) ?_
 refine LJ_y rfl rfl (YJ_move rfl) ?_
 refine LJ_bool (c := false) rfl ?_
 refine LJ_y rfl rfl (YJ_move rfl) ?_
 refine LJ_y rfl rfl (YJ_nilCheck rfl) ?_
 refine LJ_y rfl rfl (YJ_fieldOwn rfl fld_57_1 rfl) ?_
 refine LJ_y rfl rfl (YJ_loadFactP (A := some ⟨Bm, 0, none⟩) (j := 1) rfl rfl tyi_54 m0 rfl) ?_
 refine LJ_y rfl rfl (YJ_len rfl ulen_54 rfl) ?_
 refine LJ_y rfl rfl (YJ_bin rfl rfl rfl) ?_
 refine LJ_val (v := .bool false) (by kernel_rfl) ?_
 refine LJ_y rfl rfl (YJ_pickF rfl rfl) ?_
 refine LJ_y rfl rfl (YJ_move rfl) ?_
 refine LJ_bool (c := false) rfl ?_
 refine LJ_y rfl rfl (YJ_move rfl) ?_
 refine LJ_call0 rfl rfl rfl rfl rfl (new_sound (h := hm) (pts := fitQ) (a := 0) (b := 1) (c := 2) fitQ_ok (by decide) (by decide) (by decide) (by decide) (by decide) hmA) (fun r h => frz_at r h) ?_
 refine LJ_y rfl rfl (YJ_not rfl) ?_
 refine LJ_y rfl rfl (YJ_pickF rfl rfl) ?_
 refine LJ_nil ?_
 refine QJ_then ?_
 refine CJ_condF rfl ?_
 refine CJ_skip ?_
 refine QJ_then ?_
 refine CJ_seq ?_
 refine CJ_reg ?_
 refine LJ_y rfl rfl (YJ_assign rfl) ?_
 refine LJ_nil ?_
 refine QJ_then ?_
 refine CJ_seq ?_
 refine CJ_seq ?_
 refine CJ_reg ?_
 refine LJ_y rfl rfl (YJ_move rfl) ?_
 refine LJ_y rfl rfl (YJ_nilCheck rfl) ?_
 refine LJ_y rfl rfl (YJ_fieldOwn rfl fld_57_1 rfl) ?_
 refine LJ_y rfl rfl (YJ_loadFactP (A := some ⟨Bm, 0, none⟩) (j := 1) rfl rfl tyi_54 m0 rfl) ?_
 refine LJ_y rfl rfl (YJ_len rfl ulen_54 rfl) ?_
 refine LJ_y rfl rfl (YJ_move rfl) ?_
 refine LJ_nil ?_
 refine QJ_then ?_
 refine CJ_block ?_
 refine CJ_loopN 5 ?_
 refine CN_succ ?_
 refine CJ_seq ?_
 refine CJ_reg ?_
 refine LJ_y rfl rfl (YJ_bin rfl rfl rfl) ?_
 refine LJ_nil ?_
 refine QJ_then ?_
 refine CJ_seq ?_
 refine CJ_condT rfl ?_
 refine CJ_skip ?_
 refine QJ_then ?_
 refine CJ_seq ?_
 refine CJ_block ?_
 refine CJ_seq ?_
 refine CJ_reg ?_
 refine LJ_y rfl rfl (YJ_move rfl) ?_
 refine LJ_y rfl rfl (YJ_assign rfl) ?_
 refine LJ_nil ?_
 refine QJ_then ?_
 refine CJ_seq ?_
 refine CJ_reg ?_
 refine LJ_y rfl rfl (YJ_move rfl) ?_
 refine LJ_y rfl rfl (YJ_move rfl) ?_
 refine LJ_call0 rfl rfl rfl rfl rfl (real_c (h := hm) (pts := fitQ) (tris := triNew 0 1 2)) (fun r h => frz_mesh r h) ?_
 refine LJ_val (v := .bool true) (congrArg Value.bool (by kernel_rfl)) ?_
 refine LJ_nil ?_
 refine QJ_then ?_
 refine CJ_condT rfl ?_
 refine CJ_reg ?_
 refine LJ_y rfl rfl (YJ_move rfl) ?_
 refine LJ_y rfl rfl (YJ_bin rfl rfl (iop_add (by omega))) ?_
 refine LJ_y rfl rfl (YJ_assign rfl) ?_
 refine LJ_nil ?_
 refine QJ_in_normal ?_
 refine QJ_then ?_
 refine CJ_reg ?_
 refine LJ_y rfl rfl (YJ_bin rfl rfl (iop_add (by omega))) ?_
 refine LJ_y rfl rfl (YJ_move rfl) ?_
 refine LJ_nil ?_
 refine QJ_thenN ?_
 refine CN_succ ?_
 refine CJ_seq ?_
 refine CJ_reg ?_
 refine LJ_y rfl rfl (YJ_bin rfl rfl rfl) ?_
 refine LJ_nil ?_
 refine QJ_then ?_
 refine CJ_seq ?_
 refine CJ_condT rfl ?_
 refine CJ_skip ?_
 refine QJ_then ?_
 refine CJ_seq ?_
 refine CJ_block ?_
 refine CJ_seq ?_
 refine CJ_reg ?_
 refine LJ_y rfl rfl (YJ_move rfl) ?_
 refine LJ_y rfl rfl (YJ_assign rfl) ?_
 refine LJ_nil ?_
 refine QJ_then ?_
 refine CJ_seq ?_
 refine CJ_reg ?_
 refine LJ_y rfl rfl (YJ_move rfl) ?_
 refine LJ_y rfl rfl (YJ_move rfl) ?_
 refine LJ_call0 rfl rfl rfl rfl rfl (real_c (h := hm) (pts := fitQ) (tris := triNew 0 1 2)) (fun r h => frz_mesh r h) ?_
 refine LJ_val (v := .bool false) (congrArg Value.bool (by kernel_rfl)) ?_
 refine LJ_nil ?_
 refine QJ_then ?_
 refine CJ_condF rfl ?_
 refine CJ_skip ?_
 refine QJ_in_normal ?_
 refine QJ_then ?_
 refine CJ_reg ?_
 refine LJ_y rfl rfl (YJ_bin rfl rfl (iop_add (by omega))) ?_
 refine LJ_y rfl rfl (YJ_move rfl) ?_
 refine LJ_nil ?_
 refine QJ_thenN ?_
 refine CN_succ ?_
 refine CJ_seq ?_
 refine CJ_reg ?_
 refine LJ_y rfl rfl (YJ_bin rfl rfl rfl) ?_
 refine LJ_nil ?_
 refine QJ_then ?_
 refine CJ_seq ?_
 refine CJ_condT rfl ?_
 refine CJ_skip ?_
 refine QJ_then ?_
 refine CJ_seq ?_
 refine CJ_block ?_
 refine CJ_seq ?_
 refine CJ_reg ?_
 refine LJ_y rfl rfl (YJ_move rfl) ?_
 refine LJ_y rfl rfl (YJ_assign rfl) ?_
 refine LJ_nil ?_
 refine QJ_then ?_
 refine CJ_seq ?_
 refine CJ_reg ?_
 refine LJ_y rfl rfl (YJ_move rfl) ?_
 refine LJ_y rfl rfl (YJ_move rfl) ?_
 refine LJ_call0 rfl rfl rfl rfl rfl (real_c (h := hm) (pts := fitQ) (tris := triNew 0 1 2)) (fun r h => frz_mesh r h) ?_
 refine LJ_val (v := .bool false) (congrArg Value.bool (by kernel_rfl)) ?_
 refine LJ_nil ?_
 refine QJ_then ?_
 refine CJ_condF rfl ?_
 refine CJ_skip ?_
 refine QJ_in_normal ?_
 refine QJ_then ?_
 refine CJ_reg ?_
 refine LJ_y rfl rfl (YJ_bin rfl rfl (iop_add (by omega))) ?_
 refine LJ_y rfl rfl (YJ_move rfl) ?_
 refine LJ_nil ?_
 refine QJ_thenN ?_
 refine CN_succ ?_
 refine CJ_seq ?_
 refine CJ_reg ?_
 refine LJ_y rfl rfl (YJ_bin rfl rfl rfl) ?_
 refine LJ_nil ?_
 refine QJ_then ?_
 refine CJ_seq ?_
 refine CJ_condT rfl ?_
 refine CJ_skip ?_
 refine QJ_then ?_
 refine CJ_seq ?_
 refine CJ_block ?_
 refine CJ_seq ?_
 refine CJ_reg ?_
 refine LJ_y rfl rfl (YJ_move rfl) ?_
 refine LJ_y rfl rfl (YJ_assign rfl) ?_
 refine LJ_nil ?_
 refine QJ_then ?_
 refine CJ_seq ?_
 refine CJ_reg ?_
 refine LJ_y rfl rfl (YJ_move rfl) ?_
 refine LJ_y rfl rfl (YJ_move rfl) ?_
 refine LJ_call0 rfl rfl rfl rfl rfl (real_c (h := hm) (pts := fitQ) (tris := triNew 0 1 2)) (fun r h => frz_mesh r h) ?_
 refine LJ_val (v := .bool false) (congrArg Value.bool (by kernel_rfl)) ?_
 refine LJ_nil ?_
 refine QJ_then ?_
 refine CJ_condF rfl ?_
 refine CJ_skip ?_
 refine QJ_in_normal ?_
 refine QJ_then ?_
 refine CJ_reg ?_
 refine LJ_y rfl rfl (YJ_bin rfl rfl (iop_add (by omega))) ?_
 refine LJ_y rfl rfl (YJ_move rfl) ?_
 refine LJ_nil ?_
 refine QJ_thenN ?_
 refine CN_succ ?_
 refine CJ_seq ?_
 refine CJ_reg ?_
 refine LJ_y rfl rfl (YJ_bin rfl rfl rfl) ?_
 refine LJ_nil ?_
 refine QJ_then ?_
 refine CJ_seq ?_
 refine CJ_condF rfl ?_
 refine CJ_exit ?_
 refine QJ_then_exit ?_
 refine QJ_then_exit ?_
 refine QJ_in_exit ?_
 refine QJ_then ?_
 refine CJ_seq ?_
 refine CJ_reg ?_
 refine LJ_y rfl rfl (YJ_move rfl) ?_
 refine LJ_y rfl rfl (YJ_bin rfl rfl rfl) ?_
 refine LJ_y rfl rfl (YJ_assign rfl) ?_
 refine LJ_nil ?_
 refine QJ_then ?_
 refine CJ_ret ?_
 refine QJ_fin (.inl rfl) (μ' := []) (μr := _) (φ' := []) (res_tmp rfl rfl) (List.Perm.refl _) (fun _ h => nomatch h) ?_
 exact ⟨congrArg Value.bool (by kernel_rfl), rfl, rfl⟩
end Go.Proofs.Ytbanlhlggkdanaa
namespace Go.Proofs.Ytbanlhlggkdanaa
open Go.RowKit
def kv (v : Int × Int × Int) (k : Nat) : Int × Int := (at3 v.1 v.2.1 v.2.2 ((k + 1) % 3), at3 v.1 v.2.1 v.2.2 ((k + 2) % 3))
structure GB (T0 : MD) (L0 : MapO) : Prop where
 fr : ∀ k, k ∈ T0.free → 0 ≤ k ∧ k < T0.tris.length
 frr : ∀ k v, k ∈ T0.free → vw T0.tris k.toNat = some v → ¬ rv v
 fn : T0.free.Nodup
 kn : (L0.map (·.1)).Nodup
 ed : ∀ e, e ∈ L0 → 0 ≤ e.1.1 ∧ 0 ≤ e.1.2 ∧ 0 ≤ e.2.1.1 ∧ 0 ≤ e.2.1.2 ∧ e.2.1.2 < 3 ∧ ∃ v, vw T0.tris e.2.1.1.toNat = some v ∧ rv v ∧ kv v e.2.1.2.toNat = e.1
 gone : ∀ q v, vw T0.tris q = some v → ¬ rv v → (q : Int) ∈ T0.free
 uq : ∀ q v k q' v' k', vw T0.tris q = some v → rv v → k < 3 → vw T0.tris q' = some v' → rv v' → k' < 3 → kv v k = kv v' k' → q = q' ∧ k = k'
structure GI (T0 : MD) (L0 P : MapO) (s : BS) : Prop where
 pts : s.M.pts = T0.pts
 fr : ∀ k, k ∈ s.M.free → 0 ≤ k ∧ k < s.M.tris.length
 frr : ∀ k v, k ∈ s.M.free → vw s.M.tris k.toNat = some v → ¬ rv v
 fn : s.M.free.Nodup
 sub : ∀ e, e ∈ P → e ∈ L0
 rl : ∀ q v, rv v → (vw s.M.tris q = some v ↔ vw T0.tris q = some v)
 kn : (s.L.map (·.1)).Nodup
 mp : ∀ a b, 0 ≤ a → 0 ≤ b → mget (a, b) s.L = if (a, b) ∈ P.map (·.1) then none else mget (a, b) L0
 gm : ∀ e, e ∈ s.L → ¬ (0 ≤ e.1.1 ∧ 0 ≤ e.1.2) → 0 ≤ e.2.1.2 ∧ e.2.1.2 < 3 ∧ ∀ v, vw s.M.tris e.2.1.1.toNat = some v → ¬ rv v
 nr : ∀ q v k, vw T0.tris q = some v → rv v → k < 3 → (¬ kv v k ∈ P.map (·.1) → nb s.M.tris q k = nb T0.tris q k) ∧ (kv v k ∈ P.map (·.1) → ∃ u : Nat, nb s.M.tris q k = some (u : Int) ∧ vw s.M.tris u = some ((kv v k).2, (kv v k).1, -1) ∧ ¬ (u : Int) ∈ s.M.free)
 gh : ∀ q v, vw s.M.tris q = some v → ¬ rv v → (q : Int) ∈ s.M.free ∨ ∃ e, e ∈ P ∧ v = (e.1.2, e.1.1, -1) ∧ nb s.M.tris e.2.1.1.toNat e.2.1.2.toNat = some (q : Int)
theorem vw_nb {l : List Tr} {q k : Nat} {v : Int × Int × Int} (h : vw l q = some v) : ∃ x, nb l q k = some x := by
 unfold vw at h; unfold nb
 cases hq : l[q]? with
 | none => rw [hq] at h; cases h
 | some t => exact ⟨_, rfl⟩
theorem vw_lt {l : List Tr} {q : Nat} {v : Int × Int × Int} (h : vw l q = some v) : q < l.length := by
 unfold vw at h
 rcases Nat.lt_or_ge q l.length with h1 | h1
 ·exact h1
 ·rw [List.getElem?_eq_none h1] at h; cases h
theorem joinG {F : MapI} {u : Nat} {v0 v1 v2 : Int} {s : BS} {i : Nat} (hi : i < 3) (hk : ¬ (0 ≤ at3 v0 v1 v2 ((i + 1) % 3) ∧ 0 ≤ at3 v0 v1 v2 ((i + 2) % 3))) (kn : (s.L.map (·.1)).Nodup)
  (gm : ∀ e, e ∈ s.L → ¬ (0 ≤ e.1.1 ∧ 0 ≤ e.1.2) → 0 ≤ e.2.1.2 ∧ e.2.1.2 < 3 ∧ ∀ v, vw s.M.tris e.2.1.1.toNat = some v → ¬ rv v) (hu : ∀ v, vw s.M.tris u = some v → ¬ rv v) :
  (∀ q, vw (joinE F u v0 v1 v2 s i).M.tris q = vw s.M.tris q) ∧ (joinE F u v0 v1 v2 s i).M.free = s.M.free ∧ (joinE F u v0 v1 v2 s i).M.pts = s.M.pts ∧ (joinE F u v0 v1 v2 s i).M.tris.length = s.M.tris.length ∧
  (((joinE F u v0 v1 v2 s i).L).map (·.1)).Nodup ∧ (∀ a b, 0 ≤ a → 0 ≤ b → mget (a, b) (joinE F u v0 v1 v2 s i).L = mget (a, b) s.L) ∧
  (∀ e, e ∈ (joinE F u v0 v1 v2 s i).L → ¬ (0 ≤ e.1.1 ∧ 0 ≤ e.1.2) → 0 ≤ e.2.1.2 ∧ e.2.1.2 < 3 ∧ ∀ v, vw (joinE F u v0 v1 v2 s i).M.tris e.2.1.1.toNat = some v → ¬ rv v) ∧
  (∀ q v k, vw s.M.tris q = some v → rv v → k < 3 → nb (joinE F u v0 v1 v2 s i).M.tris q k = nb s.M.tris q k) := by
 unfold joinE
 cases hg : mget (at3 v0 v1 v2 ((i + 2) % 3), at3 v0 v1 v2 ((i + 1) % 3)) s.L with
 | none =>
  dsimp only
  refine ⟨fun _ => rfl, rfl, rfl, rfl, mput_keys kn, fun a b ha hb => ?_, fun e he hn => ?_, fun _ _ _ _ _ _ => rfl⟩
  ·rw [mget_mput, if_neg]
   intro q
   rw [Prod.mk.injEq] at q
   exact hk ⟨q.1 ▸ ha, q.2 ▸ hb⟩
  ·rcases mput_mem he with q | q
   ·rw [q]
    dsimp only
    exact ⟨Int.natCast_nonneg i, by omega, fun v hv => hu v (by simpa using hv)⟩
   ·exact gm e q hn
 | some x =>
  dsimp only
  obtain ⟨e, he1, he2, he3⟩ := mget_mem hg
  obtain ⟨g1, g2, g3⟩ := gm e he1 (by rw [he2]; exact fun q => hk ⟨q.2, q.1⟩)
  rw [he3] at g1 g2 g3
  refine ⟨fun q => vw_link .., rfl, rfl, link_len .., mdel_keys kn, fun a b ha hb => ?_, fun e he hn => ?_, fun q v k hq hv hk3 => ?_⟩
  ·rw [mget_mdel_ne]
   intro q
   rw [Prod.mk.injEq] at q
   exact hk ⟨q.2 ▸ hb, q.1 ▸ ha⟩
  ·have := gm e (mdel_mem he) hn
   exact ⟨this.1, this.2.1, fun v hv => this.2.2 v (by rw [vw_link] at hv; exact hv)⟩
  ·rw [nb_link _ _ hi (by omega) hk3, if_neg, if_neg]
   ·rintro ⟨rfl, _⟩; exact hu v hq hv
   ·rintro ⟨rfl, _⟩; exact g3 v hq hv
theorem make_len_ge (M : MD) (a b c : Int) : M.tris.length ≤ (M.make a b c).tris.length := by
 unfold MD.make
 dsimp only
 split <;> simp
theorem next_or {M : MD} (fr : ∀ k, k ∈ M.free → 0 ≤ k ∧ k < M.tris.length) : (M.nextN ∈ M.free ∧ 0 ≤ M.nextN ∧ (∀ k, k ∈ M.free → k = M.nextN ∨ k ∈ M.free.dropLast)) ∨ (M.free = [] ∧ M.nextN = M.tris.length) := by
 unfold MD.nextN
 cases h : M.free.getLast? with
 | none => exact .inr ⟨List.getLast?_eq_none_iff.1 h, rfl⟩
 | some k =>
  have hm := List.mem_of_getLast? h
  refine .inl ⟨hm, (fr k hm).1, fun j hj => ?_⟩
  have hne : M.free ≠ [] := by intro e; rw [e] at hm; cases hm
  rw [← List.dropLast_concat_getLast hne] at hj
  rcases List.mem_append.1 hj with q | q
  ·exact .inr q
  ·rw [List.mem_singleton] at q
   rw [List.getLast?_eq_some_getLast hne] at h
   exact .inl (q.trans (Option.some.inj h))
theorem next_drop {M : MD} (fn : M.free.Nodup) : ¬ M.nextN ∈ M.free.dropLast ∨ M.free = [] := by
 by_cases hne : M.free = []
 ·exact .inr hne
 ·refine .inl ?_
  unfold MD.nextN
  rw [List.getLast?_eq_some_getLast hne]
  dsimp only
  rw [← List.dropLast_concat_getLast hne, List.nodup_append] at fn
  intro q
  exact fn.2.2 _ q _ (List.mem_singleton.2 rfl) rfl
theorem GI.step {T0 : MD} {L0 P : MapO} {s : BS} {F : MapI} (hB : GB T0 L0) (h : GI T0 L0 P s) {e : (Int × Int) × (Int × Int) × Nat} (he : e ∈ L0) (hn : ¬ e.1 ∈ P.map (·.1)) : GI T0 L0 (P ++ [e]) (stepG F s e) := by
 obtain ⟨⟨a, b⟩, ⟨t9, k9⟩, bo⟩ := e
 obtain ⟨ha, hb, ht, hk0, hk3, ve, hv1, hv2, hv3⟩ := hB.ed _ he
 dsimp only at ha hb ht hk0 hk3 hv1 hv2 hv3 hn
 have hkk : k9.toNat < 3 := by omega
 have hmg : mget (a, b) L0 = some (t9, k9) := mget_of_mem hB.kn he
 have hu0 : ∀ v, vw s.M.tris s.M.nextN.toNat = some v → ¬ rv v := fun v hv => by
  rcases next_or h.fr with ⟨q, _, _⟩ | ⟨_, q⟩
  ·exact h.frr _ v q hv
  ·have := vw_lt hv
   omega
 have hg : ¬ rv (b, a, -1) := fun q => absurd (show (0 : Int) ≤ -1 from q.2.2) (by decide)
 have w0 := vw_make s.M b a (-1) h.fr
 have hlen0 := make_len_ge s.M b a (-1)
 have n0 : ∀ q v k, vw s.M.tris q = some v → rv v → nb (s.M.make b a (-1)).tris q k = nb s.M.tris q k := fun q v k hq hv => nb_make _ _ _ _ _ _ (fun e : q = s.M.nextN.toNat => hu0 v (e ▸ hq) hv)
 have hreal0 : ∀ q v, vw s.M.tris q = some v → rv v → vw (s.M.make b a (-1)).tris q = some v := fun q v hq hv => by
  rw [w0, if_neg (fun e : q = s.M.nextN.toNat => hu0 v (e ▸ hq) hv)]; exact hq
 generalize hS0 : (⟨s.M.make b a (-1), s.L, s.c⟩ : BS) = s0
 have e0 : s0.M = s.M.make b a (-1) := by rw [← hS0]
 have l0 : s0.L = s.L := by rw [← hS0]
 have f0 : s0.M.free = s.M.free.dropLast := by rw [e0]; rfl
 have p0 : s0.M.pts = s.M.pts := by rw [e0]; rfl
 rw [← e0] at w0 hlen0 n0 hreal0
 have gm0 : ∀ e, e ∈ s0.L → ¬ (0 ≤ e.1.1 ∧ 0 ≤ e.1.2) → 0 ≤ e.2.1.2 ∧ e.2.1.2 < 3 ∧ ∀ v, vw s0.M.tris e.2.1.1.toNat = some v → ¬ rv v := fun e' he' hn' => by
  obtain ⟨q1, q2, q3⟩ := h.gm e' (l0 ▸ he') hn'
  refine ⟨q1, q2, fun v hv => ?_⟩
  rw [w0] at hv
  split at hv
  ·cases hv; exact hg
  ·exact q3 v hv
 have u0 : ∀ v, vw s0.M.tris s.M.nextN.toNat = some v → ¬ rv v := fun v hv => by
  rw [w0, if_pos rfl] at hv; cases hv; exact hg
 obtain ⟨w1, f1, p1, ln1, kn1, mp1, gm1, n1⟩ := joinG (F := F) (u := s.M.nextN.toNat) (v0 := b) (v1 := a) (v2 := -1) (s := s0) (i := 0) (by decide) (fun q => absurd (show (0 : Int) ≤ -1 from q.2) (by decide)) (by rw [l0]; exact h.kn) gm0 u0
 have hst : stepG F s ((a, b), (t9, k9), bo) = joinE F s.M.nextN.toNat b a (-1) (joinE F s.M.nextN.toNat b a (-1) (joinE F s.M.nextN.toNat b a (-1) s0 0) 1) 2 := by rw [← hS0]; rfl
 rw [hst]
 generalize joinE F s.M.nextN.toNat b a (-1) s0 0 = s1 at *
 obtain ⟨w2, f2, p2, ln2, kn2, mp2, gm2, n2⟩ := joinG (F := F) (u := s.M.nextN.toNat) (v0 := b) (v1 := a) (v2 := -1) (s := s1) (i := 1) (by decide) (fun q => absurd (show (0 : Int) ≤ -1 from q.1) (by decide)) kn1 gm1 (fun v hv => u0 v (by rw [← w1]; exact hv))
 generalize joinE F s.M.nextN.toNat b a (-1) s1 1 = s2 at *
 have hg2 : mget (a, b) s2.L = some (t9, k9) := by rw [mp2 a b ha hb, mp1 a b ha hb, l0, h.mp a b ha hb, if_neg hn, hmg]
 have h3 : joinE F s.M.nextN.toNat b a (-1) s2 2 = ⟨s2.M.link s.M.nextN.toNat 2 t9.toNat k9.toNat (flt F b a), mdel (a, b) s2.L, s2.c⟩ := by
  unfold joinE
  show (match mget (a, b) s2.L with | some x => _ | none => _) = _
  rw [hg2]
  rfl
 rw [h3]
 clear h3 hst
 have wS : ∀ q, vw (s2.M.link s.M.nextN.toNat 2 t9.toNat k9.toNat (flt F b a)).tris q = if q = s.M.nextN.toNat then some (b, a, -1) else vw s.M.tris q := fun q => by rw [vw_link, w2, w1, w0]
 have hrs : ∀ q v, vw T0.tris q = some v → rv v → vw s.M.tris q = some v := fun q v hq hv => (h.rl q v hv).2 hq
 have hne : ∀ q v, vw s.M.tris q = some v → rv v → q ≠ s.M.nextN.toNat := fun q v hq hv e => hu0 v (e ▸ hq) hv
 have nS : ∀ q v k, vw s.M.tris q = some v → rv v → k < 3 → nb (s2.M.link s.M.nextN.toNat 2 t9.toNat k9.toNat (flt F b a)).tris q k = if q = t9.toNat ∧ k = k9.toNat then some ((s.M.nextN.toNat : Nat) : Int) else nb s.M.tris q k := fun q v k hq hv hk => by
  have z1 : nb s2.M.tris q k = nb s.M.tris q k := by
   rw [n2 q v k (by rw [w1]; exact hreal0 q v hq hv) hv hk, n1 q v k (hreal0 q v hq hv) hv hk, n0 q v k hq hv]
  rw [nb_link _ _ (by decide) hkk hk, z1]
  obtain ⟨x, hx⟩ := vw_nb (k := k) hq
  by_cases q1 : q = t9.toNat ∧ k = k9.toNat
  ·rw [if_pos q1, if_pos q1, hx]; rfl
  ·rw [if_neg q1, if_neg q1, if_neg (fun q2 => hne q v hq hv q2.1)]
 have fS : (s2.M.link s.M.nextN.toNat 2 t9.toNat k9.toNat (flt F b a)).free = s.M.free.dropLast := by
  show s2.M.free = _
  rw [f2, f1, f0]
 have lS : s.M.tris.length ≤ (s2.M.link s.M.nextN.toNat 2 t9.toNat k9.toNat (flt F b a)).tris.length := by rw [link_len, ln2, ln1]; exact hlen0
 have ufr : ¬ ((s.M.nextN.toNat : Nat) : Int) ∈ s.M.free.dropLast := by
  rcases next_or h.fr with ⟨_, q0, _⟩ | ⟨q, _⟩
  ·rw [Int.toNat_of_nonneg q0]
   rcases next_drop h.fn with q | q
   ·exact q
   ·rw [q]; simp
  ·rw [q]; simp
 have hvt := hrs _ _ hv1 hv2
 refine ⟨?_, fun k hk => ?_, fun k v hk hv => ?_, ?_, fun e' he' => ?_, fun q v hv => ?_, mdel_keys kn2, fun a' b' ha' hb' => ?_, fun e' he' hn' => ?_, fun q v k hq hv hk => ⟨fun hk' => ?_, fun hk' => ?_⟩, fun q v hq hv => ?_⟩
 ·show s2.M.pts = _
  rw [p2, p1, p0, h.pts]
 ·dsimp only at hk ⊢
  rw [fS] at hk
  have := h.fr k (List.dropLast_subset _ hk)
  omega
 ·dsimp only at hk hv
  rw [fS] at hk
  rw [wS] at hv
  split at hv
  ·cases hv; exact hg
  ·exact h.frr k v (List.dropLast_subset _ hk) hv
 ·dsimp only
  rw [fS]
  exact h.fn.sublist (List.dropLast_sublist _)
 ·rcases List.mem_append.1 he' with q | q
  ·exact h.sub e' q
  ·rw [List.mem_singleton] at q; rw [q]; exact he
 ·dsimp only
  rw [wS]
  by_cases q1 : q = s.M.nextN.toNat
  ·rw [if_pos q1]
   constructor
   ·intro q2; cases q2; exact absurd hv hg
   ·intro q2
    have := (h.rl q v hv).2 q2
    exact absurd hv (hu0 v (q1 ▸ this))
  ·rw [if_neg q1]; exact h.rl q v hv
 ·dsimp only
  by_cases q1 : (a', b') = (a, b)
  ·rw [q1, mget_mdel_eq kn2, if_pos]
   simp
  ·rw [mget_mdel_ne q1, mp2 a' b' ha' hb', mp1 a' b' ha' hb', l0, h.mp a' b' ha' hb']
   by_cases q2 : (a', b') ∈ P.map (·.1)
   ·rw [if_pos q2, if_pos (by rw [List.map_append]; exact List.mem_append_left _ q2)]
   ·rw [if_neg q2, if_neg]
    rw [List.map_append, List.mem_append]
    rintro (q3 | q3)
    ·exact q2 q3
    ·rw [List.map_cons, List.map_nil, List.mem_singleton] at q3; exact q1 q3
 ·obtain ⟨q1, q2, q3⟩ := gm2 e' (mdel_mem he') hn'
  exact ⟨q1, q2, fun v hv => q3 v (by dsimp only at hv; rw [vw_link] at hv; exact hv)⟩
 ·dsimp only
  have hk1 : ¬ kv v k ∈ P.map (·.1) := fun q1 => hk' (by rw [List.map_append]; exact List.mem_append_left _ q1)
  rw [nS q v k (hrs q v hq hv) hv hk, if_neg]
  ·exact (h.nr q v k hq hv hk).1 hk1
  ·rintro ⟨rfl, rfl⟩
   rw [hv1] at hq
   cases hq
   exact hk' (by rw [List.map_append, hv3]; exact List.mem_append_right _ (.head _))
 ·dsimp only
  rw [nS q v k (hrs q v hq hv) hv hk]
  by_cases q1 : q = t9.toNat ∧ k = k9.toNat
  ·obtain ⟨rfl, rfl⟩ := q1
   rw [hv1] at hq
   cases hq
   refine ⟨s.M.nextN.toNat, if_pos ⟨rfl, rfl⟩, ?_, ?_⟩
   ·rw [wS, if_pos rfl, hv3]
   ·rw [fS]; exact ufr
  ·rw [if_neg q1]
   have hk1 : kv v k ∈ P.map (·.1) := by
    rw [List.map_append, List.mem_append] at hk'
    rcases hk' with q2 | q2
    ·exact q2
    ·rw [List.map_cons, List.map_nil, List.mem_singleton] at q2
     exact absurd (hB.uq q v k _ ve _ hq hv hk hv1 hv2 hkk (q2.trans hv3.symm)) q1
   obtain ⟨u', y1, y2, y3⟩ := (h.nr q v k hq hv hk).2 hk1
   refine ⟨u', y1, ?_, ?_⟩
   ·rw [wS, if_neg]
    ·exact y2
    ·intro q2
     rcases next_or h.fr with ⟨z1, z2, _⟩ | ⟨_, z1⟩
     ·exact y3 (by rw [q2, Int.toNat_of_nonneg z2]; exact z1)
     ·have := vw_lt y2
      omega
   ·rw [fS]; exact fun q2 => y3 (List.dropLast_subset _ q2)
 ·dsimp only at hq ⊢
  rw [wS] at hq
  by_cases q1 : q = s.M.nextN.toNat
  ·rw [if_pos q1] at hq
   cases hq
   refine .inr ⟨_, List.mem_append_right _ (.head _), rfl, ?_⟩
   dsimp only
   rw [nS _ ve _ hvt hv2 hkk, if_pos ⟨rfl, rfl⟩, q1]
  ·rw [if_neg q1] at hq
   rcases h.gh q v hq hv with q2 | ⟨e', z1, z2, z3⟩
   ·rw [fS]
    rcases next_or h.fr with ⟨_, y2, y3⟩ | ⟨y1, _⟩
    ·rcases y3 _ q2 with y4 | y4
     ·exact absurd (by omega) q1
     ·exact .inl y4
    ·rw [y1] at q2; cases q2
   ·refine .inr ⟨e', List.mem_append_left _ z1, z2, ?_⟩
    obtain ⟨_, _, x1, x2, x3, v', x4, x5, x6⟩ := hB.ed e' (h.sub e' z1)
    rw [nS _ v' _ (hrs _ _ x4 x5) x5 (by omega), if_neg]
    ·exact z3
    ·rintro ⟨y1, y2⟩
     rw [y1, hv1] at x4
     cases x4
     rw [y2, hv3] at x6
     exact hn (by rw [x6]; exact List.mem_map.2 ⟨e', z1, rfl⟩)
theorem GI.all {T0 : MD} {L0 : MapO} {F : MapI} (hB : GB T0 L0) : ∀ (r P : MapO) (s : BS), GI T0 L0 P s → (∀ e, e ∈ r → e ∈ L0) → ((P ++ r).map (·.1)).Nodup → GI T0 L0 (P ++ r) (r.foldl (stepG F) s)
 | [], P, s, h, _, _ => by rw [List.append_nil]; exact h
 | e :: r, P, s, h, hs, hn => by
  have h1 := GI.step (F := F) hB h (hs e (.head _)) (by
   intro q
   rw [List.map_append, List.nodup_append] at hn
   exact hn.2.2 _ q _ (List.mem_map.2 ⟨e, .head _, rfl⟩) rfl)
  have := GI.all (F := F) hB r (P ++ [e]) (stepG F s e) h1 (fun x hx => hs x (.tail _ hx)) (by rw [List.append_assoc]; exact hn)
  rw [List.append_assoc] at this
  exact this
end Go.Proofs.Ytbanlhlggkdanaa
namespace Go.Proofs.Ytbanlhlggkdanaa
open Go.RowKit
def fb (l : List Tr) (q k : Nat) : Option Bool := l[q]?.map fun t => t.fl k
theorem setN_f (t : Tr) (i : Nat) (u : Int) (k : Nat) : (t.setN i u).fl k = t.fl k := by
 unfold Tr.setN
 (repeat' split) <;> rfl
theorem setF_f (t : Tr) {i k : Nat} (f : Bool) (hi : i < 3) (hk : k < 3) : (t.setF i f).fl k = if k = i then f else t.fl k := by
 match i, hi, k, hk with
 | 0, _, 0, _ => rfl
 | 0, _, 1, _ => rfl
 | 0, _, 2, _ => rfl
 | 1, _, 0, _ => rfl
 | 1, _, 1, _ => rfl
 | 1, _, 2, _ => rfl
 | 2, _, 0, _ => rfl
 | 2, _, 1, _ => rfl
 | 2, _, 2, _ => rfl
theorem fb_modN (l : List Tr) (i j : Nat) (u : Int) (q k : Nat) : fb (l.modify i (·.setN j u)) q k = fb l q k := by
 unfold fb
 rw [List.getElem?_modify]
 cases l[q]? with
 | none => rfl
 | some t => by_cases h : i = q <;> simp [h, setN_f]
theorem fb_modF (l : List Tr) {i j : Nat} (f : Bool) {q k : Nat} (hj : j < 3) (hk : k < 3) : fb (l.modify i (·.setF j f)) q k = if q = i ∧ k = j then (fb l q k).map (fun _ => f) else fb l q k := by
 unfold fb
 rw [List.getElem?_modify]
 cases l[q]? with
 | none => simp
 | some t =>
  by_cases h : i = q
  ·subst h
   by_cases h2 : k = j
   ·subst h2; simp [setF_f t f hk hk]
   ·simp [setF_f t f hj hk, h2]
  ·have h' : ¬ q = i := fun e => h e.symm
   simp [h, h']
theorem fb_link (M : MD) {t i u j : Nat} (f : Bool) {q k : Nat} (hi : i < 3) (hj : j < 3) (hk : k < 3) : fb (M.link t i u j f).tris q k = if q = u ∧ k = j then (fb M.tris q k).map (fun _ => f) else if q = t ∧ k = i then (fb M.tris q k).map (fun _ => f) else fb M.tris q k := by
 unfold MD.link
 dsimp only
 rw [fb_modF _ _ hj hk, fb_modF _ _ hi hk, fb_modN, fb_modN]
 by_cases h1 : q = u ∧ k = j
 ·rw [if_pos h1, if_pos h1]
  by_cases h2 : q = t ∧ k = i
  ·rw [if_pos h2]; cases fb M.tris q k <;> rfl
  ·rw [if_neg h2]
 ·rw [if_neg h1, if_neg h1]
theorem fb_make (M : MD) (a b c : Int) (q j : Nat) (hq : q ≠ M.nextN.toNat) : fb (M.make a b c).tris q j = fb M.tris q j := by
 unfold fb MD.make
 unfold MD.nextN at hq
 dsimp only
 cases h : M.free.getLast? with
 | none =>
  rw [h] at hq
  dsimp only at hq ⊢
  rw [List.getElem?_append]
  by_cases h1 : q < M.tris.length
  ·rw [if_pos h1]
  ·rw [if_neg h1, List.getElem?_eq_none (by simp at hq ⊢; omega), List.getElem?_eq_none (by omega)]
 | some k =>
  rw [h] at hq
  dsimp only at hq ⊢
  rw [List.getElem?_set, if_neg (fun e => hq e.symm)]
theorem flt_comm (F : MapI) (a b : Int) : flt F a b = flt F b a := by
 unfold flt
 rw [Int.min_comm a b, Int.max_comm a b, ← Bool.and_assoc, ← Bool.and_assoc, Bool.and_comm (decide (0 ≤ a))]
theorem vw_fb {l : List Tr} {q k : Nat} {v : Int × Int × Int} (h : vw l q = some v) : ∃ x, fb l q k = some x := by
 unfold vw at h
 unfold fb
 cases hl : l[q]? with
 | none => rw [hl] at h; cases h
 | some t => exact ⟨_, rfl⟩
abbrev Slot := Nat × Nat × (Int × Int)
abbrev rev2 (e : Int × Int) : Int × Int := (e.2, e.1)
structure SI (F : MapI) (s : BS) (E : List Slot) : Prop where
 kn : (s.L.map (·.1)).Nodup
 vs : ∀ x, x ∈ E → x.2.1 < 3 ∧ ∃ v, vw s.M.tris x.1 = some v ∧ kv v x.2.1 = x.2.2
 ne : ∀ x, x ∈ E → x.2.2.1 ≠ x.2.2.2
 uq : ∀ x, x ∈ E → ∀ y, y ∈ E → x.2.2 = y.2.2 → x = y
 lk : ∀ x, x ∈ E → ∀ y, y ∈ E → y.2.2 = rev2 x.2.2 → nb s.M.tris x.1 x.2.1 = some (y.1 : Int) ∧ fb s.M.tris x.1 x.2.1 = some (flt F x.2.2.1 x.2.2.2)
 op : ∀ x, x ∈ E → (∀ y, y ∈ E → y.2.2 ≠ rev2 x.2.2) → mget x.2.2 s.L = some ((x.1 : Int), (x.2.1 : Int))
 ex : ∀ e v, mget e s.L = some v → ∃ x, x ∈ E ∧ x.2.2 = e ∧ v = ((x.1 : Int), (x.2.1 : Int)) ∧ ∀ y, y ∈ E → y.2.2 ≠ rev2 e
theorem SI.join {F : MapI} {s : BS} {E : List Slot} {n i : Nat} {v0 v1 v2 : Int} (h : SI F s E) (hi : i < 3) (hv : vw s.M.tris n = some (v0, v1, v2)) (hne : (kv (v0, v1, v2) i).1 ≠ (kv (v0, v1, v2) i).2) (hnew : ∀ x, x ∈ E → x.2.2 ≠ kv (v0, v1, v2) i) :
  SI F (joinE F n v0 v1 v2 s i) (E ++ [(n, i, kv (v0, v1, v2) i)]) := by
 have hpos : ∀ x, x ∈ E → ¬ (x.1 = n ∧ x.2.1 = i) := by
  rintro x hx ⟨e1, e2⟩
  obtain ⟨_, v, q1, q2⟩ := h.vs x hx
  rw [e1, hv] at q1
  cases q1
  exact hnew x hx (by rw [← q2, e2])
 have hg : (at3 v0 v1 v2 ((i + 2) % 3), at3 v0 v1 v2 ((i + 1) % 3)) = rev2 (kv (v0, v1, v2) i) := rfl
 have hk : (at3 v0 v1 v2 ((i + 1) % 3), at3 v0 v1 v2 ((i + 2) % 3)) = kv (v0, v1, v2) i := rfl
 have hf : flt F (at3 v0 v1 v2 ((i + 1) % 3)) (at3 v0 v1 v2 ((i + 2) % 3)) = flt F (kv (v0, v1, v2) i).1 (kv (v0, v1, v2) i).2 := rfl
 unfold joinE
 rw [hg, hk, hf]
 generalize kv (v0, v1, v2) i = e at *
 have hre : ∀ {e' : Int × Int}, e = rev2 e' → e' = rev2 e := fun q => by rw [q]
 have uqn : ∀ x, x ∈ E ++ [(n, i, e)] → ∀ y, y ∈ E ++ [(n, i, e)] → x.2.2 = y.2.2 → x = y := by
  intro x hx y hy hxy
  rcases List.mem_append.1 hx with hx | hx <;> rcases List.mem_append.1 hy with hy | hy
  ·exact h.uq x hx y hy hxy
  ·rw [List.mem_singleton] at hy; subst hy; exact absurd hxy (hnew x hx)
  ·rw [List.mem_singleton] at hx; subst hx; exact absurd hxy.symm (hnew y hy)
  ·rw [List.mem_singleton] at hx hy; rw [hx, hy]
 have nen : ∀ x, x ∈ E ++ [(n, i, e)] → x.2.2.1 ≠ x.2.2.2 := by
  intro x hx
  rcases List.mem_append.1 hx with hx | hx
  ·exact h.ne x hx
  ·rw [List.mem_singleton] at hx; subst hx; exact hne
 have her : e ≠ rev2 e := fun q => hne (congrArg Prod.fst q)
 cases hm : mget (rev2 e) s.L with
 | some w =>
  dsimp only
  obtain ⟨o, ho, ho1, ho2, ho3⟩ := h.ex _ _ hm
  have e1 : w.1.toNat = o.1 := by rw [ho2]; simp
  have e2 : w.2.toNat = o.2.1 := by rw [ho2]; simp
  rw [e1, e2]
  obtain ⟨hj, ov, hov, hokv⟩ := h.vs o ho
  have hon : ¬ (n = o.1 ∧ i = o.2.1) := fun q => hpos o ho ⟨q.1.symm, q.2.symm⟩
  have hother : ∀ x, x ∈ E → x.1 = o.1 → x.2.1 = o.2.1 → x.2.2 = rev2 e := by
   intro x hx q1 q2
   obtain ⟨_, v, p1, p2⟩ := h.vs x hx
   rw [q1, hov] at p1
   cases p1
   rw [← p2, q2, hokv, ho1]
  refine ⟨mdel_keys h.kn, fun x hx => ?_, nen, uqn, fun x hx y hy hxy => ?_, fun x hx hno => ?_, fun e' v hv' => ?_⟩
  ·rcases List.mem_append.1 hx with hx | hx
   ·obtain ⟨a1, v, a2, a3⟩ := h.vs x hx
    exact ⟨a1, v, by rw [vw_link]; exact a2, a3⟩
   ·rw [List.mem_singleton] at hx
    subst hx
    exact ⟨hi, _, by rw [vw_link]; exact hv, by assumption⟩
  ·rcases List.mem_append.1 hx with hx | hx <;> rcases List.mem_append.1 hy with hy | hy
   ·have k1 : ¬ (x.1 = o.1 ∧ x.2.1 = o.2.1) := fun q => hnew y hy (by rw [hxy, hother x hx q.1 q.2])
    have hx3 := (h.vs x hx).1
    rw [nb_link _ _ hi hj hx3, fb_link _ _ hi hj hx3, if_neg k1, if_neg (hpos x hx), if_neg k1, if_neg (hpos x hx)]
    exact h.lk x hx y hy hxy
   ·rw [List.mem_singleton] at hy
    subst hy
    have hxo : x = o := h.uq x hx o ho (by rw [ho1]; exact hre hxy)
    subst hxo
    obtain ⟨z, hz⟩ := vw_nb (k := x.2.1) hov
    obtain ⟨f, hf⟩ := vw_fb (k := x.2.1) hov
    rw [nb_link _ _ hi hj hj, fb_link _ _ hi hj hj, if_pos ⟨rfl, rfl⟩, if_pos ⟨rfl, rfl⟩, hz, hf, ho1, flt_comm]
    exact ⟨rfl, rfl⟩
   ·rw [List.mem_singleton] at hx
    subst hx
    have hyo : y = o := h.uq y hy o ho (by rw [ho1]; exact hxy)
    subst hyo
    obtain ⟨z, hz⟩ := vw_nb (k := i) hv
    obtain ⟨f, hf⟩ := vw_fb (k := i) hv
    rw [nb_link _ _ hi hj hi, fb_link _ _ hi hj hi, if_neg hon, if_pos ⟨rfl, rfl⟩, if_neg hon, if_pos ⟨rfl, rfl⟩, hz, hf]
    exact ⟨rfl, rfl⟩
   ·rw [List.mem_singleton] at hx hy
    subst hx; subst hy
    exact absurd hxy her
  ·rcases List.mem_append.1 hx with hx | hx
   ·rw [mget_mdel_ne]
    ·exact h.op x hx (fun y hy => hno y (List.mem_append_left _ hy))
    ·intro q
     exact hno (n, i, e) (List.mem_append_right _ (.head _)) (by rw [q])
   ·rw [List.mem_singleton] at hx
    subst hx
    exact absurd ho1 (hno o (List.mem_append_left _ ho))
  ·by_cases q : e' = rev2 e
   ·rw [q, mget_mdel_eq h.kn] at hv'; cases hv'
   ·rw [mget_mdel_ne q] at hv'
    obtain ⟨x, hx1, hx2, hx3, hx4⟩ := h.ex _ _ hv'
    refine ⟨x, List.mem_append_left _ hx1, hx2, hx3, fun y hy => ?_⟩
    rcases List.mem_append.1 hy with hy | hy
    ·exact hx4 y hy
    ·rw [List.mem_singleton] at hy
     subst hy
     exact fun p => q (hre p)
 | none =>
  dsimp only
  have hno : ∀ y, y ∈ E → y.2.2 ≠ rev2 e := by
   intro y hy q
   have := h.op y hy (fun z hz p => hnew z hz (by rw [p, q]))
   rw [q, hm] at this
   cases this
  refine ⟨mput_keys h.kn, fun x hx => ?_, nen, uqn, fun x hx y hy hxy => ?_, fun x hx hno' => ?_, fun e' v hv' => ?_⟩
  ·rcases List.mem_append.1 hx with hx | hx
   ·exact h.vs x hx
   ·rw [List.mem_singleton] at hx
    subst hx
    exact ⟨hi, _, hv, by assumption⟩
  ·rcases List.mem_append.1 hx with hx | hx <;> rcases List.mem_append.1 hy with hy | hy
   ·exact h.lk x hx y hy hxy
   ·rw [List.mem_singleton] at hy
    subst hy
    exact absurd (hre hxy) (hno x hx)
   ·rw [List.mem_singleton] at hx
    subst hx
    exact absurd hxy (hno y hy)
   ·rw [List.mem_singleton] at hx hy
    subst hx; subst hy
    exact absurd hxy her
  ·rcases List.mem_append.1 hx with hx | hx
   ·rw [mget_mput, if_neg (hnew x hx)]
    exact h.op x hx (fun y hy => hno' y (List.mem_append_left _ hy))
   ·rw [List.mem_singleton] at hx
    subst hx
    rw [mget_mput, if_pos rfl]
  ·rw [mget_mput] at hv'
   split at hv'
   ·rename_i q
    cases hv'
    refine ⟨(n, i, e), List.mem_append_right _ (.head _), q.symm, rfl, fun y hy => ?_⟩
    rw [q]
    rcases List.mem_append.1 hy with hy | hy
    ·exact hno y hy
    ·rw [List.mem_singleton] at hy; subst hy; exact her
   ·obtain ⟨x, hx1, hx2, hx3, hx4⟩ := h.ex _ _ hv'
    refine ⟨x, List.mem_append_left _ hx1, hx2, hx3, fun y hy => ?_⟩
    rcases List.mem_append.1 hy with hy | hy
    ·exact hx4 y hy
    ·rw [List.mem_singleton] at hy
     subst hy
     intro p
     rw [hre p, hm] at hv'
     cases hv'
def eds (v : Int × Int × Int) : List (Int × Int) := [kv v 0, kv v 1, kv v 2]
def slots (x : Nat × (Int × Int × Int)) : List Slot := [(x.1, 0, kv x.2 0), (x.1, 1, kv x.2 1), (x.1, 2, kv x.2 2)]
def dist3 (v : Int × Int × Int) : Prop := v.1 ≠ v.2.1 ∧ v.2.1 ≠ v.2.2 ∧ v.2.2 ≠ v.1
instance (v : Int × Int × Int) : Decidable (dist3 v) := inferInstanceAs (Decidable (_ ∧ _))
theorem joinE_same (F : MapI) (n : Nat) (v0 v1 v2 : Int) (s : BS) (i : Nat) : (∀ q, vw (joinE F n v0 v1 v2 s i).M.tris q = vw s.M.tris q) ∧ (joinE F n v0 v1 v2 s i).M.free = s.M.free ∧ (joinE F n v0 v1 v2 s i).M.tris.length = s.M.tris.length ∧ (joinE F n v0 v1 v2 s i).M.ats = s.M.ats ∧ (joinE F n v0 v1 v2 s i).M.pts = s.M.pts := by
 unfold joinE
 split
 ·exact ⟨fun q => vw_link .., rfl, link_len .., rfl, rfl⟩
 ·exact ⟨fun _ => rfl, rfl, rfl, rfl, rfl⟩
theorem joinB_same (F : MapI) (n : Nat) (v0 v1 v2 : Int) (s : BS) : (∀ q, vw (joinB F n v0 v1 v2 s).M.tris q = vw s.M.tris q) ∧ (joinB F n v0 v1 v2 s).M.free = s.M.free ∧ (joinB F n v0 v1 v2 s).M.tris.length = s.M.tris.length ∧ (joinB F n v0 v1 v2 s).M.ats = s.M.ats ∧ (joinB F n v0 v1 v2 s).M.pts = s.M.pts := by
 show (∀ q, vw (joinE F n v0 v1 v2 (joinE F n v0 v1 v2 (joinE F n v0 v1 v2 s 0) 1) 2).M.tris q = _) ∧ (joinE F n v0 v1 v2 (joinE F n v0 v1 v2 (joinE F n v0 v1 v2 s 0) 1) 2).M.free = _ ∧ (joinE F n v0 v1 v2 (joinE F n v0 v1 v2 (joinE F n v0 v1 v2 s 0) 1) 2).M.tris.length = _ ∧ (joinE F n v0 v1 v2 (joinE F n v0 v1 v2 (joinE F n v0 v1 v2 s 0) 1) 2).M.ats = _ ∧ (joinE F n v0 v1 v2 (joinE F n v0 v1 v2 (joinE F n v0 v1 v2 s 0) 1) 2).M.pts = _
 obtain ⟨a1, a2, a3, a4, a5⟩ := joinE_same F n v0 v1 v2 s 0
 obtain ⟨b1, b2, b3, b4, b5⟩ := joinE_same F n v0 v1 v2 (joinE F n v0 v1 v2 s 0) 1
 obtain ⟨c1, c2, c3, c4, c5⟩ := joinE_same F n v0 v1 v2 (joinE F n v0 v1 v2 (joinE F n v0 v1 v2 s 0) 1) 2
 exact ⟨fun q => (c1 q).trans ((b1 q).trans (a1 q)), c2.trans (b2.trans a2), c3.trans (b3.trans a3), c4.trans (b4.trans a4), c5.trans (b5.trans a5)⟩
theorem SI.joinB {F : MapI} {s : BS} {E : List Slot} {n : Nat} {v : Int × Int × Int} (h : SI F s E) (hv : vw s.M.tris n = some v) (hd : dist3 v) (hnew : ∀ e, e ∈ eds v → ∀ x, x ∈ E → x.2.2 ≠ e) : SI F (joinB F n v.1 v.2.1 v.2.2 s) (E ++ slots (n, v)) := by
 obtain ⟨v0, v1, v2⟩ := v
 obtain ⟨d1, d2, d3⟩ := hd
 dsimp only at d1 d2 d3
 have h0 := h.join (n := n) (i := 0) (by decide) hv d2 (hnew _ (.head _))
 obtain ⟨a1, _⟩ := joinE_same F n v0 v1 v2 s 0
 have h1 := h0.join (n := n) (i := 1) (by decide) ((a1 n).trans hv) d3 (fun x hx => by
  rcases List.mem_append.1 hx with hx | hx
  ·exact hnew _ (.tail _ (.head _)) x hx
  ·rw [List.mem_singleton] at hx
   subst hx
   intro q
   exact d3 (congrArg Prod.snd q))
 obtain ⟨b1, _⟩ := joinE_same F n v0 v1 v2 (joinE F n v0 v1 v2 s 0) 1
 have h2 := h1.join (n := n) (i := 2) (by decide) ((b1 n).trans ((a1 n).trans hv)) d1 (fun x hx => by
  rcases List.mem_append.1 hx with hx | hx
  ·rcases List.mem_append.1 hx with hx | hx
   ·exact hnew _ (.tail _ (.tail _ (.head _))) x hx
   ·rw [List.mem_singleton] at hx
    subst hx
    intro q
    exact d1 (congrArg Prod.fst q).symm
  ·rw [List.mem_singleton] at hx
   subst hx
   intro q
   exact d3 (congrArg Prod.fst q))
 rw [List.append_assoc, List.append_assoc] at h2
 exact h2
theorem SI.make {F : MapI} {M : MD} {L : MapO} {c : Nat} {E : List Slot} {v0 v1 v2 : Int} (h : SI F ⟨M, L, c⟩ E) (fr : ∀ k, k ∈ M.free → 0 ≤ k ∧ k < M.tris.length) (hn : ∀ x, x ∈ E → x.1 ≠ M.nextN.toNat) : SI F ⟨M.make v0 v1 v2, L, c⟩ E where
 kn := h.kn
 vs := fun x hx => by
  obtain ⟨a1, v, a2, a3⟩ := h.vs x hx
  exact ⟨a1, v, by dsimp only; rw [vw_make _ _ _ _ fr, if_neg (hn x hx)]; exact a2, a3⟩
 ne := h.ne
 uq := h.uq
 lk := fun x hx y hy hxy => by
  dsimp only
  rw [nb_make _ _ _ _ _ _ (hn x hx), fb_make _ _ _ _ _ _ (hn x hx)]
  exact h.lk x hx y hy hxy
 op := h.op
 ex := h.ex
def has3 (p : Int) (v : Int × Int × Int) : Prop := p = v.1 ∨ p = v.2.1 ∨ p = v.2.2
instance (p : Int) (v : Int × Int × Int) : Decidable (has3 p v) := inferInstanceAs (Decidable (_ ∨ _))
structure SM (F : MapI) (s : BS) (V : List (Nat × (Int × Int × Int))) : Prop where
 si : SI F s (V.flatMap slots)
 vs : ∀ x, x ∈ V → vw s.M.tris x.1 = some x.2
 fr : ∀ k, k ∈ s.M.free → 0 ≤ k ∧ k < s.M.tris.length
 fn : s.M.free.Nodup
 nf : ∀ x, x ∈ V → ¬ (x.1 : Int) ∈ s.M.free
 all : ∀ q v, vw s.M.tris q = some v → (q : Int) ∈ s.M.free ∨ (q, v) ∈ V
 gn : ∀ k, k ∈ s.M.free → vw s.M.tris k.toNat = some (-2, -2, -2)
 at_ : ∀ x, x ∈ V → ∀ p, has3 p x.2 → 0 ≤ p → p < s.M.ats.length → ∃ y, y ∈ V ∧ s.M.ats[p.toNat]? = some (y.1 : Int) ∧ has3 p y.2
theorem setAt_get {l : List Int} {v n p : Int} (h0 : 0 ≤ p) (h1 : p < l.length) : (setAt l v n)[p.toNat]? = if v = p then some n else l[p.toNat]? := by
 unfold setAt
 split
 ·rw [List.getElem?_set]
  by_cases q : v = p
  ·subst q; rw [if_pos rfl, if_pos (by omega), if_pos rfl]
  ·rw [if_neg (by omega), if_neg q]
 ·rw [if_neg (by omega)]
theorem eds_slots {E : List (Nat × (Int × Int × Int))} {y : Slot} (h : y ∈ E.flatMap slots) : ∃ x, x ∈ E ∧ y.1 = x.1 ∧ y.2.2 ∈ eds x.2 ∧ y.2.1 < 3 ∧ y.2.2 = kv x.2 y.2.1 := by
 obtain ⟨x, hx, hy⟩ := List.mem_flatMap.1 h
 refine ⟨x, hx, ?_⟩
 simp only [slots, List.mem_cons, List.not_mem_nil, or_false] at hy
 rcases hy with rfl | rfl | rfl
 ·exact ⟨rfl, .head _, (by decide : (0 : Nat) < 3), rfl⟩
 ·exact ⟨rfl, .tail _ (.head _), (by decide : (1 : Nat) < 3), rfl⟩
 ·exact ⟨rfl, .tail _ (.tail _ (.head _)), (by decide : (2 : Nat) < 3), rfl⟩
theorem slot_mem {V : List (Nat × (Int × Int × Int))} {x : Nat × (Int × Int × Int)} {k : Nat} (hx : x ∈ V) (hk : k < 3) : ((x.1, k, kv x.2 k) : Slot) ∈ V.flatMap slots := by
 refine List.mem_flatMap.2 ⟨x, hx, ?_⟩
 match k, hk with
 | 0, _ => exact .head _
 | 1, _ => exact .tail _ (.head _)
 | 2, _ => exact .tail _ (.tail _ (.head _))
theorem SM.step {F : MapI} {s : BS} {V : List (Nat × (Int × Int × Int))} {v : Int × Int × Int} (h : SM F s V) (hd : dist3 v) (hnew : ∀ e, e ∈ eds v → ∀ y, y ∈ V → ¬ e ∈ eds y.2) : SM F (stepT F s v) (V ++ [(s.M.nextN.toNat, v)]) := by
 have hu : ∀ x, x ∈ V → x.1 ≠ s.M.nextN.toNat := by
  intro x hx q
  have hlt := vw_lt (h.vs x hx)
  rcases next_or h.fr with ⟨p1, p2, _⟩ | ⟨_, p⟩
  ·exact h.nf x hx (by rw [q, Int.toNat_of_nonneg p2]; exact p1)
  ·rw [p] at q; omega
 have hE : ∀ x, x ∈ V.flatMap slots → x.1 ≠ s.M.nextN.toNat := by
  intro x hx
  obtain ⟨y, hy, e, _⟩ := eds_slots hx
  rw [e]; exact hu y hy
 have hm := SI.make (v0 := v.1) (v1 := v.2.1) (v2 := v.2.2) h.si h.fr hE
 have hvw : vw (s.M.make v.1 v.2.1 v.2.2).tris s.M.nextN.toNat = some v := by rw [vw_make _ _ _ _ h.fr, if_pos rfl]
 have hj := hm.joinB (n := s.M.nextN.toNat) (v := v) hvw hd (fun e he x hx q => by
  obtain ⟨y, hy, _, h2, _⟩ := eds_slots hx
  exact hnew e he y hy (q ▸ h2))
 obtain ⟨j1, j2, j3, j4, j5⟩ := joinB_same F s.M.nextN.toNat v.1 v.2.1 v.2.2 ⟨s.M.make v.1 v.2.1 v.2.2, s.L, s.c⟩
 have hvq : ∀ q, vw (stepT F s v).M.tris q = if q = s.M.nextN.toNat then some v else vw s.M.tris q := fun q => (j1 q).trans (vw_make _ _ _ _ h.fr q)
 have hfree : (stepT F s v).M.free = s.M.free.dropLast := j2
 have hats : (stepT F s v).M.ats = setAt (setAt (setAt s.M.ats v.1 s.M.nextN) v.2.1 s.M.nextN) v.2.2 s.M.nextN := j4
 have hN : ((s.M.nextN.toNat : Nat) : Int) = s.M.nextN := by
  rcases next_or h.fr with ⟨_, p2, _⟩ | ⟨_, p⟩
  ·exact Int.toNat_of_nonneg p2
  ·rw [p]; simp
 refine ⟨?_, fun x hx => ?_, fun k hk => ?_, ?_, fun x hx => ?_, fun q w hq => ?_, fun k hk => ?_, fun x hx p hp h0 h1 => ?_⟩
 ·rw [List.flatMap_append, List.flatMap_cons, List.flatMap_nil, List.append_nil]; exact hj
 ·rw [hvq]
  rcases List.mem_append.1 hx with hx | hx
  ·rw [if_neg (hu x hx)]; exact h.vs x hx
  ·rw [List.mem_singleton] at hx; subst hx; rw [if_pos rfl]
 ·rw [hfree] at hk
  have := h.fr k (List.dropLast_subset _ hk)
  have h2 := make_len_ge s.M v.1 v.2.1 v.2.2
  refine ⟨this.1, ?_⟩
  rw [show (stepT F s v).M.tris.length = (s.M.make v.1 v.2.1 v.2.2).tris.length from j3]
  omega
 ·rw [hfree]; exact h.fn.sublist (List.dropLast_sublist _)
 ·rw [hfree]
  rcases List.mem_append.1 hx with hx | hx
  ·exact fun q => h.nf x hx (List.dropLast_subset _ q)
  ·rw [List.mem_singleton] at hx
   subst hx
   dsimp only
   rw [hN]
   rcases next_drop h.fn with q | q
   ·exact q
   ·rw [q]; exact List.not_mem_nil
 ·rw [hvq] at hq
  split at hq
  ·rename_i e
   cases hq
   exact .inr (List.mem_append_right _ (by rw [e]; exact .head _))
  ·rename_i e
   rcases h.all q w hq with p | p
   ·rw [hfree]
    rcases next_or h.fr with ⟨_, _, p3⟩ | ⟨p3, _⟩
    ·rcases p3 _ p with p4 | p4
     ·exact absurd (by rw [← p4]; simp) e
     ·exact .inl p4
    ·rw [p3] at p; cases p
   ·exact .inr (List.mem_append_left _ p)
 ·rw [hfree] at hk
  have hk0 := h.fr k (List.dropLast_subset _ hk)
  rw [hvq, if_neg, h.gn k (List.dropLast_subset _ hk)]
  intro q
  have : k = s.M.nextN := by rw [← hN, ← q]; omega
  rcases next_drop h.fn with p | p
  ·exact p (this ▸ hk)
  ·rw [p] at hk; cases hk
 ·rw [hats] at h1 ⊢
  rw [setAt_len, setAt_len, setAt_len] at h1
  rw [setAt_get h0 (by rw [setAt_len, setAt_len]; exact h1), setAt_get h0 (by rw [setAt_len]; exact h1), setAt_get h0 h1]
  by_cases hpv : has3 p v
  ·refine ⟨(s.M.nextN.toNat, v), List.mem_append_right _ (.head _), ?_, hpv⟩
   rw [hN]
   rcases hpv with q | q | q
   ·rw [if_pos q.symm]; (repeat' split) <;> rfl
   ·rw [if_pos q.symm]; (repeat' split) <;> rfl
   ·rw [if_pos q.symm]
  ·rw [if_neg (fun q => hpv (.inr (.inr q.symm))), if_neg (fun q => hpv (.inr (.inl q.symm))), if_neg (fun q => hpv (.inl q.symm))]
   rcases List.mem_append.1 hx with hx | hx
   ·obtain ⟨y, y1, y2, y3⟩ := h.at_ x hx p hp h0 h1
    exact ⟨y, List.mem_append_left _ y1, y2, y3⟩
   ·rw [List.mem_singleton] at hx
    subst hx
    exact absurd hp hpv
theorem SM.many {F : MapI} : ∀ (l : List (Int × Int × Int)) {s : BS} {V : List (Nat × (Int × Int × Int))}, SM F s V → (∀ v, v ∈ l → dist3 v) → (V.flatMap (fun x => eds x.2) ++ l.flatMap eds).Nodup → ∃ V', SM F (l.foldl (stepT F) s) (V ++ V') ∧ V'.map (·.2) = l
 | [], s, V, h, _, _ => ⟨[], by rw [List.append_nil]; exact h, rfl⟩
 | v :: l, s, V, h, hd, hn => by
  rw [List.flatMap_cons, ← List.append_assoc] at hn
  have h1 := h.step (v := v) (hd v (.head _)) (fun e he y hy q => by
   have := (List.nodup_append.1 (List.nodup_append.1 hn).1).2.2 e (List.mem_flatMap.2 ⟨y, hy, q⟩) e he
   exact this rfl)
  obtain ⟨V', a1, a2⟩ := SM.many l h1 (fun w hw => hd w (.tail _ hw)) (by
   rw [List.flatMap_append, List.flatMap_cons, List.flatMap_nil, List.append_nil]
   exact hn)
  refine ⟨(s.M.nextN.toNat, v) :: V', ?_, by rw [List.map_cons, a2]⟩
  rw [List.append_assoc] at a1
  exact a1
theorem four {l : List Tr} (h : l.length = 4) : ∃ a b c d, l = [a, b, c, d] := by
 match l, h with
 | [a, b, c, d], _ => exact ⟨a, b, c, d, rfl⟩
theorem bs0_SM (F : MapI) (pts : List (Int × Int)) (a b c : Int) : SM F (bs0 pts a b c) [] := by
 have hl : (newM pts a b c).tris.length = 4 := by simp [newM, newM0, MD.make, MD.link]
 have hf : (newM pts a b c).free = [] := by simp [newM, newM0, MD.make, MD.link]
 obtain ⟨x, y, z, w, hx⟩ := four hl
 have ht : (bs0 pts a b c).M.tris = [Tr.gone, Tr.gone, Tr.gone, Tr.gone] := by
  show (mesh0 pts a b c).tris = _
  unfold mesh0 MD.drop
  dsimp only
  rw [hx]
  rfl
 have hfr : (bs0 pts a b c).M.free = [0, 1, 2, 3] := by
  show (mesh0 pts a b c).free = _
  unfold mesh0 MD.drop
  dsimp only
  rw [hf]
  rfl
 refine ⟨⟨List.nodup_nil, fun _ h => (nomatch h), fun _ h => (nomatch h), fun _ h => (nomatch h), fun _ h => (nomatch h), fun _ h => (nomatch h), fun e v h => ?_⟩, fun _ h => (nomatch h), fun k hk => ?_, ?_, fun _ h => (nomatch h), fun q v hq => ?_, fun k hk => ?_, fun _ h => (nomatch h)⟩
 ·rw [show (bs0 pts a b c).L = [] from rfl, mget_nil] at h; cases h
 ·rw [hfr] at hk
  rw [ht]
  simp at hk ⊢
  omega
 ·rw [hfr]; decide
 ·rw [ht] at hq
  rw [hfr]
  have := vw_lt hq
  simp at this
  left
  simp
  omega
 ·rw [hfr] at hk
  rw [ht]
  simp at hk
  rcases hk with rfl | rfl | rfl | rfl <;> rfl
end Go.Proofs.Ytbanlhlggkdanaa
namespace Go.Proofs.Ytbanlhlggkdanaa
open Go.RowKit
abbrev T3 := Int × Int × Int
def tv (v : T3) (k : Nat) : Int := at3 v.1 v.2.1 v.2.2 k
theorem kv_tv (v : T3) (k : Nat) : kv v k = (tv v ((k + 1) % 3), tv v ((k + 2) % 3)) := rfl
theorem vw_iff {l : List Tr} {q : Nat} {v : T3} : vw l q = some v ↔ ∃ t, l[q]? = some t ∧ (t.v0, t.v1, t.v2) = v := by
 unfold vw
 cases l[q]? with
 | none => simp
 | some t => simp
structure LM (F : MapI) (tris : List Tr) (V : List (Nat × T3)) : Prop where
 vs : ∀ x, x ∈ V → vw tris x.1 = some x.2
 al : ∀ q v, vw tris q = some v → v = (-2, -2, -2) ∨ (q, v) ∈ V
 lk : ∀ x, x ∈ V → ∀ k, k < 3 → ∀ y, y ∈ V → ∀ j, j < 3 → kv y.2 j = rev2 (kv x.2 k) → nb tris x.1 k = some (y.1 : Int) ∧ fb tris x.1 k = some (flt F (kv x.2 k).1 (kv x.2 k).2)
 un : ∀ x, x ∈ V → ∀ k, k < 3 → ∀ y, y ∈ V → ∀ j, j < 3 → kv x.2 k = kv y.2 j → x = y ∧ k = j
theorem SM.lm {F : MapI} {s : BS} {V : List (Nat × T3)} (h : SM F s V) : LM F s.M.tris V where
 vs := h.vs
 al := fun q v hq => by
  rcases h.all q v hq with p | p
  ·have := h.gn _ p
   rw [show ((q : Int)).toNat = q from Int.toNat_natCast q, hq] at this
   exact .inl (Option.some.inj this)
  ·exact .inr p
 lk := fun x hx k hk y hy j hj he => h.si.lk _ (slot_mem hx hk) _ (slot_mem hy hj) he
 un := fun x hx k hk y hy j hj he => by
  have := h.si.uq _ (slot_mem hx hk) _ (slot_mem hy hj) he
  simp only [Prod.mk.injEq] at this
  obtain ⟨e1, e2, _⟩ := this
  refine ⟨Prod.ext e1 ?_, e2⟩
  have q1 := h.vs x hx
  rw [e1, h.vs y hy] at q1
  exact (Option.some.inj q1).symm
def cnt3 (p : Int) (v : T3) : Int := (if v.1 = p then 1 else 0) + (if v.2.1 = p then 1 else 0) + (if v.2.2 = p then 1 else 0)
def cntT (p : Int) (T : List T3) : Int := (T.map (cnt3 p)).sum
structure TG (n : Nat) (T : List T3) : Prop where
 ds : ∀ v, v ∈ T → dist3 v
 nd : (T.flatMap eds).Nodup
 rv : ∀ v, v ∈ T → ∀ k, k < 3 → ∃ w, w ∈ T ∧ ∃ j, j < 3 ∧ kv w j = rev2 (kv v k)
 ok : ∀ v, v ∈ T → ∀ k, k < 3 → tv v k = -1 ∨ (0 ≤ tv v k ∧ tv v k < n)
 st : ∀ v, v ∈ T → ∀ k, k < 3 → ∃ ws : List Int, ws.Nodup ∧ 0 < ws.length ∧ cntT (tv v k) T = ws.length ∧ ∀ u, u ∈ T → ∀ m, m < 3 → tv u m = tv v k → ∃ i, ws[i]? = some (tv u ((m + 1) % 3)) ∧ ws[(i + 1) % ws.length]? = some (tv u ((m + 2) % 3))
 al : ∀ p : Nat, p < n → ∃ v, v ∈ T ∧ has3 p v
 gh : ∃ v, v ∈ T ∧ has3 (-1) v
theorem has3_tv {p : Int} {v : T3} : has3 p v ↔ ∃ k, k < 3 ∧ tv v k = p := by
 constructor
 ·rintro (h | h | h)
  ·exact ⟨0, by decide, h.symm⟩
  ·exact ⟨1, by decide, h.symm⟩
  ·exact ⟨2, by decide, h.symm⟩
 ·rintro ⟨k, hk, h⟩
  match k, hk with
  | 0, _ => exact .inl h.symm
  | 1, _ => exact .inr (.inl h.symm)
  | 2, _ => exact .inr (.inr h.symm)
theorem tv_inj {v : T3} (h : dist3 v) {k j : Nat} (hk : k < 3) (hj : j < 3) (he : tv v k = tv v j) : k = j := by
 obtain ⟨d1, d2, d3⟩ := h
 match k, hk, j, hj with
 | 0, _, 0, _ => rfl
 | 1, _, 1, _ => rfl
 | 2, _, 2, _ => rfl
 | 0, _, 1, _ => exact absurd he d1
 | 1, _, 0, _ => exact absurd he.symm d1
 | 1, _, 2, _ => exact absurd he d2
 | 2, _, 1, _ => exact absurd he.symm d2
 | 2, _, 0, _ => exact absurd he d3
 | 0, _, 2, _ => exact absurd he.symm d3
theorem TG.nodup {n : Nat} {T : List T3} (h : TG n T) : T.Nodup := by
 have := h.nd
 unfold List.Nodup at this ⊢
 rw [List.pairwise_flatMap] at this
 exact this.2.imp (fun {a b} hab q => by subst q; exact hab (kv a 0) (.head _) (kv a 0) (.head _) rfl)
def lvF : Nat → List Tr → List (Nat × T3)
 | _, [] => []
 | k, t :: r => if t.v0 = -2 then lvF (k + 1) r else (k, (t.v0, t.v1, t.v2)) :: lvF (k + 1) r
theorem lvF_cons {k : Nat} {t : Tr} {r : List Tr} : lvF k (t :: r) = if t.v0 = -2 then lvF (k + 1) r else (k, (t.v0, t.v1, t.v2)) :: lvF (k + 1) r := rfl
theorem lvF_mem : ∀ {l : List Tr} {k q : Nat} {v : T3}, (q, v) ∈ lvF k l ↔ k ≤ q ∧ vw l (q - k) = some v ∧ v.1 ≠ -2
 | [], k, q, v => by simp [lvF, vw]
 | t :: l, k, q, v => by
  have ih := lvF_mem (l := l) (k := k + 1) (q := q) (v := v)
  have key : (k + 1 ≤ q ∧ vw l (q - (k + 1)) = some v ∧ v.1 ≠ -2) ↔ (k < q ∧ vw (t :: l) (q - k) = some v ∧ v.1 ≠ -2) := by
   constructor
   ·rintro ⟨h1, h2, h3⟩
    refine ⟨h1, ?_, h3⟩
    rw [show q - k = (q - (k + 1)) + 1 by omega]
    exact h2
   ·rintro ⟨h1, h2, h3⟩
    refine ⟨h1, ?_, h3⟩
    rw [show q - k = (q - (k + 1)) + 1 by omega] at h2
    exact h2
  unfold lvF
  split
  ·rename_i hg
   rw [ih, key]
   constructor
   ·rintro ⟨h1, h2⟩; exact ⟨by omega, h2⟩
   ·rintro ⟨h1, h2, h3⟩
    refine ⟨?_, h2, h3⟩
    rcases Nat.lt_or_ge k q with p | p
    ·exact p
    ·rw [show q - k = 0 by omega] at h2
     simp [vw] at h2
     subst h2
     exact absurd hg h3
  ·rename_i hg
   rw [List.mem_cons, ih, key]
   constructor
   ·rintro (h1 | ⟨h1, h2⟩)
    ·cases h1
     exact ⟨Nat.le_refl _, by rw [Nat.sub_self]; rfl, hg⟩
    ·exact ⟨by omega, h2⟩
   ·rintro ⟨h1, h2, h3⟩
    rcases Nat.lt_or_ge k q with p | p
    ·exact .inr ⟨p, h2, h3⟩
    ·rw [show q - k = 0 by omega] at h2
     simp [vw] at h2
     left
     rw [← h2, show q = k by omega]
theorem lvF_nodup : ∀ {l : List Tr} {k : Nat}, (lvF k l).Nodup
 | [], _ => List.nodup_nil
 | t :: l, k => by
  unfold lvF
  split
  ·exact lvF_nodup
  ·rw [List.nodup_cons]
   exact ⟨fun q => by have := (lvF_mem.1 q).1; omega, lvF_nodup⟩
section
variable {F : MapI} {tris : List Tr} {V : List (Nat × T3)} {n : Nat} {pts : List (Int × Int)} {ats : List Int}
theorem TG.ne2 (hT : TG n (V.map (·.2))) {x : Nat × T3} (hx : x ∈ V) {k : Nat} (hk : k < 3) : tv x.2 k ≠ -2 := by
 have := hT.ok x.2 (List.mem_map.2 ⟨x, hx, rfl⟩) k hk
 omega
theorem LM.perm (h : LM F tris V) (hT : TG n (V.map (·.2))) : (lvF 0 tris).Perm V := by
 rw [List.perm_ext_iff_of_nodup lvF_nodup (nodup_of_map hT.nodup)]
 rintro ⟨q, v⟩
 rw [lvF_mem]
 constructor
 ·rintro ⟨_, h2, h3⟩
  rcases h.al q v h2 with p | p
  ·subst p; exact absurd rfl h3
  ·exact p
 ·intro hx
  exact ⟨Nat.zero_le _, h.vs _ hx, hT.ne2 hx (by decide : 0 < 3)⟩
theorem LM.get (h : LM F tris V) {x : Nat × T3} (hx : x ∈ V) : ∃ t, tris[x.1]? = some t ∧ (t.v0, t.v1, t.v2) = x.2 := vw_iff.1 (h.vs x hx)
theorem LM.of (h : LM F tris V) {q : Nat} {t : Tr} (ht : tris[q]? = some t) (h0 : t.v0 ≠ -2) : (q, (t.v0, t.v1, t.v2)) ∈ V := by
 rcases h.al q _ (vw_iff.2 ⟨t, ht, rfl⟩) with p | p
 ·exact absurd (congrArg Prod.fst p) h0
 ·exact p
theorem nb_at {l : List Tr} {q k : Nat} {x : Int} {t : Tr} (h : nb l q k = some x) (ht : l[q]? = some t) : t.n k = x := by
 unfold nb at h
 rw [ht] at h
 exact Option.some.inj h
theorem fb_at {l : List Tr} {q k : Nat} {x : Bool} {t : Tr} (h : fb l q k = some x) (ht : l[q]? = some t) : t.fl k = x := by
 unfold fb at h
 rw [ht] at h
 exact Option.some.inj h
theorem LM.across (h : LM F tris V) (hT : TG n (V.map (·.2))) {x : Nat × T3} (hx : x ∈ V) {t : Tr} (ht : tris[x.1]? = some t) {k : Nat} (hk : k < 3) : ∃ y, y ∈ V ∧ ∃ j, j < 3 ∧ kv y.2 j = rev2 (kv x.2 k) ∧ t.n k = (y.1 : Int) ∧ t.fl k = flt F (kv x.2 k).1 (kv x.2 k).2 ∧ ∃ o, tris[y.1]? = some o ∧ (o.v0, o.v1, o.v2) = y.2 ∧ o.n j = (x.1 : Int) ∧ o.fl j = t.fl k := by
 obtain ⟨w, hw, j, hj, he⟩ := hT.rv x.2 (List.mem_map.2 ⟨x, hx, rfl⟩) k hk
 obtain ⟨y, hy, rfl⟩ := List.mem_map.1 hw
 obtain ⟨l1, l2⟩ := h.lk x hx k hk y hy j hj he
 obtain ⟨l3, l4⟩ := h.lk y hy j hj x hx k hk (by rw [he])
 obtain ⟨o, ho, hov⟩ := h.get hy
 refine ⟨y, hy, j, hj, he, nb_at l1 ht, fb_at l2 ht, o, ho, hov, nb_at l3 ho, ?_⟩
 rw [fb_at l4 ho, fb_at l2 ht, he, flt_comm]
theorem LM.bes (h : LM F tris V) (hT : TG n (V.map (·.2))) {q : Nat} {t : Tr} (ht : tris[q]? = some t) (h0 : t.v0 ≠ -2) : besB tris t (q : Nat) = true := by
 have hx := h.of ht h0
 have key : ∀ k, k < 3 → besI tris t (q : Nat) k = true := by
  intro k hk
  obtain ⟨y, hy, j, hj, he, hn, hf, o, ho, hov, hon, hof⟩ := h.across hT hx ht hk
  have hl := (List.getElem?_eq_some_iff.1 ho).1
  have e1 : kv (t.v0, t.v1, t.v2) k = (t.v ((k + 1) % 3), t.v ((k + 2) % 3)) := rfl
  have e2 : ∀ m, kv y.2 m = (o.v ((m + 1) % 3), o.v ((m + 2) % 3)) := fun m => by rw [← hov]; rfl
  dsimp only at he hf
  rw [e1] at he hf
  rw [e2 j] at he
  simp only [rev2, Prod.mk.injEq] at he
  unfold besI
  rw [if_neg]
  ·rw [hn, Int.toNat_natCast, ho]
   dsimp only
   have h1 : ∀ f, besF o t (q : Nat) k f j = true := by
    intro f
    unfold besF
    rw [if_pos he, hon, hof]
    simp
   have h2 : ∀ f m, m < 3 → m ≠ j → besF o t (q : Nat) k f m = f := by
    intro f m hm hne
    unfold besF
    rw [if_neg]
    rintro ⟨p1, p2⟩
    have : kv y.2 m = kv y.2 j := by rw [e2, e2, p1, p2, he.1, he.2]
    exact hne (h.un y hy m hm y hy j hj this).2
   show besF o t (q : Nat) k (besF o t (q : Nat) k (besF o t (q : Nat) k false 0) 1) 2 = true
   match j, hj with
   | 0, _ => rw [h2 _ 2 (by decide) (by decide), h2 _ 1 (by decide) (by decide)]; exact h1 _
   | 1, _ => rw [h2 _ 2 (by decide) (by decide)]; exact h1 _
   | 2, _ => exact h1 _
  ·rintro (p | p | ⟨p1, p2⟩)
   ·rw [hn] at p; omega
   ·rw [hn] at p; omega
   ·rw [hf] at p1
    unfold flt at p1
    simp only [Bool.and_eq_true, decide_eq_true_eq] at p1
    omega
 unfold besB
 rw [key 0 (by decide), key 1 (by decide), key 2 (by decide)]
 rfl
theorem liveE_lv : ∀ (l : List Tr) (k : Nat), liveE l = (lvF k l).flatMap (fun x => eds x.2)
 | [], _ => rfl
 | t :: l, k => by
  have ih := liveE_lv l (k + 1)
  unfold liveE at ih ⊢
  rw [List.flatMap_cons, ih, lvF_cons]
  by_cases h0 : t.v0 = -2
  ·rw [if_pos h0, if_pos h0]; rfl
  ·rw [if_neg h0, if_neg h0, List.flatMap_cons]; rfl
theorem flatMap_snd (V : List (Nat × T3)) : V.flatMap (fun x => eds x.2) = (V.map (·.2)).flatMap eds := by rw [List.flatMap_map]
def madeV (pts : List (Int × Int)) (v : T3) : Bool := madeB pts ⟨v.1, v.2.1, v.2.2, -1, -1, -1, false, false, false⟩
theorem LM.snd (h : LM F tris V) (hT : TG n (V.map (·.2))) (hm : ∀ v, v ∈ V.map (·.2) → madeV pts v = true) : sndP pts tris := by
 refine ⟨?_, fun q t ht => ?_⟩
 ·rw [liveE_lv tris 0]
  have := ((h.perm hT).flatMap_right (fun x => eds x.2)).nodup_iff
  rw [this, flatMap_snd]
  exact hT.nd
 ·unfold okT
  rw [Bool.and_eq_true]
  by_cases h0 : t.v0 = -2
  ·rcases h.al q _ (vw_iff.2 ⟨t, ht, rfl⟩) with p | p
   ·refine ⟨?_, by rw [decide_eq_true h0]; rfl⟩
    simp only [Prod.mk.injEq] at p
    obtain ⟨p0, p1, p2⟩ := p
    simp [madeB, cntv, Tr.v, at3, p0, p1, p2]
   ·exact absurd h0 (hT.ne2 p (by decide : 0 < 3))
  ·refine ⟨hm _ (List.mem_map.2 ⟨_, h.of ht h0, rfl⟩), ?_⟩
   rw [h.bes hT ht h0, Bool.or_true]
theorem cntv_3 (t : Tr) (p : Int) : cntv t p 3 = cnt3 p (t.v0, t.v1, t.v2) := by
 have e0 : t.v 0 = t.v0 := rfl
 have e1 : t.v 1 = t.v1 := rfl
 have e2 : t.v 2 = t.v2 := rfl
 simp only [cntv, cnt3, e0, e1, e2, Int.zero_add]
theorem cntA_lv {p : Int} (hp : p ≠ -2) : ∀ (l : List Tr) (k : Nat), (∀ t, t ∈ l → t.v0 = -2 → t.v1 = -2 ∧ t.v2 = -2) → cntA p l = cntT p ((lvF k l).map (·.2))
 | [], _, _ => rfl
 | t :: l, k, hg => by
  have ih := cntA_lv hp l (k + 1) (fun t ht => hg t (.tail _ ht))
  unfold cntA
  rw [ih, cntv_3, lvF_cons]
  split
  ·rename_i h0
   obtain ⟨h1, h2⟩ := hg t (.head _) h0
   unfold cnt3
   rw [h0, h1, h2, if_neg (fun q => hp q.symm)]
   omega
  ·unfold cntT
   rw [List.map_cons, List.map_cons, List.sum_cons]
theorem sum_perm {α : Type} (f : α → Int) {l l' : List α} (h : l.Perm l') : (l.map f).sum = (l'.map f).sum := by
 induction h with
 | nil => rfl
 | cons x _ ih => simp [ih]
 | swap x y l => simp only [List.map_cons, List.sum_cons]; omega
 | trans _ _ ih1 ih2 => exact ih1.trans ih2
theorem LM.gone (h : LM F tris V) (hT : TG n (V.map (·.2))) : ∀ t, t ∈ tris → t.v0 = -2 → t.v1 = -2 ∧ t.v2 = -2 := by
 intro t ht h0
 obtain ⟨q, hq⟩ := List.mem_iff_getElem?.1 ht
 rcases h.al q _ (vw_iff.2 ⟨t, hq, rfl⟩) with p | p
 ·simp only [Prod.mk.injEq] at p; exact p.2
 ·exact absurd h0 (hT.ne2 p (by decide : 0 < 3))
theorem LM.cnt (h : LM F tris V) (hT : TG n (V.map (·.2))) {p : Int} (hp : p ≠ -2) : cntA p tris = cntT p (V.map (·.2)) := by
 rw [cntA_lv hp tris 0 (h.gone hT)]
 exact sum_perm _ ((h.perm hT).map _)
end
end Go.Proofs.Ytbanlhlggkdanaa
namespace Go.Proofs.Ytbanlhlggkdanaa
open Go.RowKit
section
variable {F : MapI} {tris : List Tr} {V : List (Nat × T3)} {n : Nat} {pts : List (Int × Int)} {ats : List Int}
theorem LM.plc (h : LM F tris V) (hT : TG n (V.map (·.2))) {x : Nat × T3} (hx : x ∈ V) {t : Tr} (ht : tris[x.1]? = some t) {k : Nat} (hk : k < 3) : plc t (tv x.2 k) = (k : Nat) := by
 obtain ⟨u, hu, huv⟩ := h.get hx
 rw [ht] at hu
 cases hu
 have e : ∀ m, t.v m = tv x.2 m := fun m => by rw [← huv]; rfl
 obtain ⟨p, hp, hp3, hpv⟩ := plc_has (t := t) (v := tv x.2 k) hk (e k)
 rw [hp, tv_inj (hT.ds x.2 (List.mem_map.2 ⟨x, hx, rfl⟩)) hp3 hk ((e p).symm.trans hpv)]
theorem LM.next (h : LM F tris V) (hT : TG n (V.map (·.2))) {x : Nat × T3} (hx : x ∈ V) {k : Nat} (hk : k < 3) : ∃ y, y ∈ V ∧ nxt tris (tv x.2 k) x.1 = (y.1 : Int) ∧ ∃ m, m < 3 ∧ tv y.2 m = tv x.2 k ∧ tv y.2 ((m + 1) % 3) = tv x.2 ((k + 2) % 3) := by
 obtain ⟨t, ht, _⟩ := h.get hx
 obtain ⟨y, hy, j, hj, he, hn, _⟩ := h.across hT hx ht (Nat.mod_lt (k + 1) (by decide : 0 < 3))
 refine ⟨y, hy, ?_, (j + 1) % 3, Nat.mod_lt _ (by decide), ?_, ?_⟩
 ·unfold nxt
  rw [Int.toNat_natCast, ht]
  dsimp only
  rw [h.plc hT hx ht hk, Int.toNat_natCast]
  exact hn
 ·have := congrArg Prod.fst he
  rw [kv_tv, kv_tv] at this
  dsimp only [rev2] at this
  rw [this, show ((k + 1) % 3 + 2) % 3 = k by omega]
 ·have := congrArg Prod.snd he
  rw [kv_tv, kv_tv] at this
  dsimp only [rev2] at this
  rw [show ((j + 1) % 3 + 1) % 3 = (j + 2) % 3 by omega, this, show ((k + 1) % 3 + 1) % 3 = (k + 2) % 3 by omega]
theorem at_inj {ws : List Int} (hn : ws.Nodup) {i j : Nat} {a : Int} (h1 : ws[i]? = some a) (h2 : ws[j]? = some a) : i = j :=
 (List.getElem?_inj (List.getElem?_eq_some_iff.1 h1).1 hn).1 (h1.trans h2.symm)
theorem cntT_le {p : Int} : ∀ {l : List T3}, (∀ v, v ∈ l → dist3 v) → cntT p l ≤ l.length
 | [], _ => Int.le_refl _
 | v :: l, h => by
  have ih := cntT_le (p := p) (l := l) (fun u hu => h u (.tail _ hu))
  obtain ⟨d1, d2, d3⟩ := h v (.head _)
  unfold cntT at ih ⊢
  rw [List.map_cons, List.sum_cons, List.length_cons]
  have : cnt3 p v ≤ 1 := by
   unfold cnt3
   (repeat' split) <;> omega
  omega
theorem lvF_len : ∀ (l : List Tr) (k : Nat), (lvF k l).length ≤ l.length
 | [], _ => Nat.le_refl _
 | t :: l, k => by
  have := lvF_len l (k + 1)
  rw [lvF_cons]
  split
  ·rw [List.length_cons]; omega
  ·rw [List.length_cons, List.length_cons]; omega
theorem LM.len (h : LM F tris V) (hT : TG n (V.map (·.2))) : V.length ≤ tris.length := by
 rw [← (h.perm hT).length_eq]
 exact lvF_len ..
theorem LM.orbit (h : LM F tris V) (hT : TG n (V.map (·.2))) {x : Nat × T3} (hx : x ∈ V) {k : Nat} (hk : k < 3) : ∃ ws : List Int, ws.Nodup ∧ 0 < ws.length ∧ (ws.length : Int) = cntA (tv x.2 k) tris ∧ ws.length ≤ tris.length ∧ ∃ i0, i0 < ws.length ∧ ws[i0]? = some (tv x.2 ((k + 1) % 3)) ∧
  (∀ j, ∃ y, y ∈ V ∧ itr tris (tv x.2 k) j x.1 = (y.1 : Int) ∧ ∃ m, m < 3 ∧ tv y.2 m = tv x.2 k ∧ ws[(i0 + j) % ws.length]? = some (tv y.2 ((m + 1) % 3))) ∧
  ∀ u, u ∈ V → ∀ m, m < 3 → tv u.2 m = tv x.2 k → ∃ i, i < ws.length ∧ ws[i]? = some (tv u.2 ((m + 1) % 3)) := by
 obtain ⟨ws, hn, h0, hc, hw⟩ := hT.st x.2 (List.mem_map.2 ⟨x, hx, rfl⟩) k hk
 have hcA : (ws.length : Int) = cntA (tv x.2 k) tris := by rw [h.cnt hT (hT.ne2 hx hk), hc]
 refine ⟨ws, hn, h0, hcA, ?_, ?_⟩
 ·have q1 := cntT_le (p := tv x.2 k) hT.ds
  have q2 := h.len hT
  rw [List.length_map] at q1
  omega
 obtain ⟨i0, hi0, hi1⟩ := hw x.2 (List.mem_map.2 ⟨x, hx, rfl⟩) k hk rfl
 have hil := (List.getElem?_eq_some_iff.1 hi0).1
 refine ⟨i0, hil, hi0, fun j => ?_, fun u hu m hm he => ?_⟩
 ·induction j with
  | zero => exact ⟨x, hx, rfl, k, hk, rfl, by rw [Nat.add_zero, Nat.mod_eq_of_lt hil]; exact hi0⟩
  | succ j ih =>
   obtain ⟨y, hy, hyi, m, hm, hym, hyw⟩ := ih
   obtain ⟨z, hz, hzn, m', hm', hzm, hzw⟩ := h.next hT hy hm
   refine ⟨z, hz, ?_, m', hm', hzm.trans hym, ?_⟩
   ·show nxt tris (tv x.2 k) (itr tris (tv x.2 k) j x.1) = _
    rw [hyi, ← hym]; exact hzn
   ·obtain ⟨i, hi2, hi3⟩ := hw y.2 (List.mem_map.2 ⟨y, hy, rfl⟩) m hm hym
    have e := at_inj hn hi2 hyw
    subst e
    rw [hzw, ← hi3]
    congr 1
    rw [Nat.mod_add_mod]
    rfl
 ·obtain ⟨i, hi2, _⟩ := hw u.2 (List.mem_map.2 ⟨u, hu, rfl⟩) m hm he
  exact ⟨i, (List.getElem?_eq_some_iff.1 hi2).1, hi2⟩
theorem LM.same (h : LM F tris V) {x y : Nat × T3} (hx : x ∈ V) (hy : y ∈ V) {k m : Nat} (hk : k < 3) (hm : m < 3) (e1 : tv x.2 k = tv y.2 m) (e2 : tv x.2 ((k + 1) % 3) = tv y.2 ((m + 1) % 3)) : x = y ∧ k = m := by
 have e : kv x.2 ((k + 2) % 3) = kv y.2 ((m + 2) % 3) := by
  rw [kv_tv, kv_tv, show ((k + 2) % 3 + 1) % 3 = k by omega, show ((k + 2) % 3 + 2) % 3 = (k + 1) % 3 by omega, show ((m + 2) % 3 + 1) % 3 = m by omega, show ((m + 2) % 3 + 2) % 3 = (m + 1) % 3 by omega, e1, e2]
 obtain ⟨q1, q2⟩ := h.un x hx _ (Nat.mod_lt _ (by decide)) y hy _ (Nat.mod_lt _ (by decide)) e
 exact ⟨q1, by omega⟩
theorem LM.num (h : LM F tris V) {x y : Nat × T3} (hx : x ∈ V) (hy : y ∈ V) (e : x.1 = y.1) : x = y := by
 have q := h.vs x hx
 rw [e, h.vs y hy] at q
 exact Prod.ext e (Option.some.inj q).symm
theorem mod_back {i j N : Nat} (hi : i < N) (h0 : 0 < j) (hj : j < N) : (i + j) % N ≠ i := by
 rcases Nat.lt_or_ge (i + j) N with p | p
 ·rw [Nat.mod_eq_of_lt p]; omega
 ·rw [Nat.mod_eq_sub_mod p, Nat.mod_eq_of_lt (by omega)]; omega
theorem LM.orb_end (h : LM F tris V) (hT : TG n (V.map (·.2))) {x : Nat × T3} (hx : x ∈ V) {k : Nat} (hk : k < 3) : ∃ N : Nat, 1 ≤ N ∧ (N : Int) = cntA (tv x.2 k) tris ∧ N ≤ tris.length ∧ itr tris (tv x.2 k) N x.1 = x.1 ∧ (∀ j, 0 < j → j < N → itr tris (tv x.2 k) j x.1 ≠ x.1) := by
 obtain ⟨ws, hn, h0, hcA, hl, i0, hil, hi0, ho, _⟩ := h.orbit hT hx hk
 refine ⟨ws.length, h0, hcA, hl, ?_, fun j j0 j1 q => ?_⟩
 ·obtain ⟨y, hy, hyi, m, hm, hym, hyw⟩ := ho ws.length
  rw [Nat.add_mod_right, Nat.mod_eq_of_lt hil, hi0] at hyw
  rw [hyi, (h.same hx hy hk hm hym.symm (Option.some.inj hyw)).1]
 ·obtain ⟨y, hy, hyi, m, hm, hym, hyw⟩ := ho j
  rw [hyi] at q
  have e := h.num hx hy (by omega)
  subst e
  have e2 := tv_inj (hT.ds x.2 (List.mem_map.2 ⟨x, hx, rfl⟩)) hm hk hym
  subst e2
  exact mod_back hil j0 j1 (at_inj hn hyw hi0)
theorem LM.st (h : LM F tris V) (hT : TG n (V.map (·.2))) (hs : sndP pts tris) (hal : ats.length = n) (hat : ∀ p : Nat, p < n → ∃ y, y ∈ V ∧ ats[p]? = some (y.1 : Int) ∧ has3 p y.2) : StOk tris ats := by
 have hpos : ∀ {x : Nat × T3}, x ∈ V → ∀ {k : Nat}, k < 3 → 0 < cntA (tv x.2 k) tris := by
  intro x hx k hk
  obtain ⟨ws, _, h0, hcA, _⟩ := h.orbit hT hx hk
  omega
 refine ⟨snd_cl hs, fun v q k t m hv hq hk he hr => ?_, fun v a ha => ?_, ?_⟩
 ·have h0 : t.v0 ≠ -2 := by
   intro q0
   have := h.gone hT t (List.mem_of_getElem? hq) q0
   match k, hk with
   | 0, _ => exact hv (he.symm.trans q0)
   | 1, _ => exact hv (he.symm.trans this.1)
   | 2, _ => exact hv (he.symm.trans this.2)
  have hx := h.of hq h0
  have e : tv (t.v0, t.v1, t.v2) k = v := he
  obtain ⟨N, n1, n2, n3, n4, n5⟩ := h.orb_end hT hx hk
  dsimp only at n2 n4 n5
  rw [e] at n2 n4 n5
  rw [rnd_is hr n1 n3 n4 n5, n2]
 ·have hvl : v < n := by
   have := (List.getElem?_eq_some_iff.1 ha).1
   omega
  obtain ⟨y, hy, hya, hyh⟩ := hat v hvl
  rw [hya] at ha
  obtain rfl := Option.some.inj ha
  obtain ⟨k, hk, hkv⟩ := has3_tv.1 hyh
  have hp := hpos hy hk
  rw [hkv] at hp
  obtain ⟨t, ht, _⟩ := h.get hy
  refine ⟨by omega, by have := (List.getElem?_eq_some_iff.1 ht).1; omega, fun _ => ⟨t, by rw [Int.toNat_natCast]; exact ht, ?_⟩⟩
  have := h.plc hT hy ht hk
  rw [hkv] at this
  rw [this]
  exact Int.natCast_nonneg k
 ·obtain ⟨v, hv, hg⟩ := hT.gh
  obtain ⟨x, hx, rfl⟩ := List.mem_map.1 hv
  obtain ⟨k, hk, hkv⟩ := has3_tv.1 hg
  have hp := hpos hx hk
  rw [hkv] at hp
  exact hp
end
end Go.Proofs.Ytbanlhlggkdanaa
namespace Go.Proofs.Ytbanlhlggkdanaa
open Go.RowKit
theorem TG.perm {n : Nat} {T T' : List T3} (h : TG n T) (hp : T.Perm T') : TG n T' where
 ds := fun v hv => h.ds v (hp.mem_iff.2 hv)
 nd := (hp.flatMap_right eds).nodup_iff.1 h.nd
 rv := fun v hv k hk => by
  obtain ⟨w, hw, q⟩ := h.rv v (hp.mem_iff.2 hv) k hk
  exact ⟨w, hp.mem_iff.1 hw, q⟩
 ok := fun v hv => h.ok v (hp.mem_iff.2 hv)
 st := fun v hv k hk => by
  obtain ⟨ws, h1, h2, h3, h4⟩ := h.st v (hp.mem_iff.2 hv) k hk
  refine ⟨ws, h1, h2, ?_, fun u hu => h4 u (hp.mem_iff.2 hu)⟩
  rw [← h3]
  exact (sum_perm _ hp).symm
 al := fun p q => by
  obtain ⟨v, hv, e⟩ := h.al p q
  exact ⟨v, hp.mem_iff.1 hv, e⟩
 gh := by
  obtain ⟨v, hv, e⟩ := h.gh
  exact ⟨v, hp.mem_iff.1 hv, e⟩
def cyc (T : List T3) (p : Int) : List (Int × Int) := T.flatMap fun v => (if v.1 = p then [(v.2.1, v.2.2)] else []) ++ ((if v.2.1 = p then [(v.2.2, v.1)] else []) ++ (if v.2.2 = p then [(v.1, v.2.1)] else []))
def starF : Nat → List (Int × Int) → Int → List Int
 | 0, _, _ => []
 | n + 1, L, w => w :: starF n L (((L.find? (fun e => decide (e.1 = w))).map (·.2)).getD 0)
def starB (T : List T3) (p : Int) : Bool :=
 let L := cyc T p
 let ws := starF L.length L ((L.head?.map (·.1)).getD 0)
 decide (ws.Nodup) && (decide (0 < ws.length) && (decide (cntT p T = ws.length) && L.all fun e => (List.range ws.length).any fun i => decide (ws[i]? = some e.1) && decide (ws[(i + 1) % ws.length]? = some e.2)))
def tgB (n : Nat) (T : List T3) : Bool :=
 T.all (fun v => decide (dist3 v)) && (decide ((T.flatMap eds).Nodup) && (T.all (fun v => [0, 1, 2].all fun k => T.any fun w => [0, 1, 2].any fun j => decide (kv w j = rev2 (kv v k))) &&
 (T.all (fun v => [0, 1, 2].all fun k => decide (tv v k = -1 ∨ (0 ≤ tv v k ∧ tv v k < n))) && ((List.range n).all (fun p => T.any fun v => decide (has3 p v)) && (T.any (fun v => decide (has3 (-1) v)) && ((-1 : Int) :: (List.range n).map fun p => ((p : Nat) : Int)).all (starB T))))))
theorem in3' {k : Nat} (h : k < 3) : k ∈ [0, 1, 2] := by
 match k, h with
 | 0, _ => exact .head _
 | 1, _ => exact .tail _ (.head _)
 | 2, _ => exact .tail _ (.tail _ (.head _))
theorem lt3 {k : Nat} (h : k ∈ [0, 1, 2]) : k < 3 := by
 simp at h; omega
theorem cyc_mem {T : List T3} {u : T3} {m : Nat} (hu : u ∈ T) (hm : m < 3) : (tv u ((m + 1) % 3), tv u ((m + 2) % 3)) ∈ cyc T (tv u m) := by
 refine List.mem_flatMap.2 ⟨u, hu, ?_⟩
 match m, hm with
 | 0, _ => rw [if_pos (show u.1 = tv u 0 from rfl)]; exact .head _
 | 1, _ => refine List.mem_append_right _ (List.mem_append_left _ ?_); rw [if_pos (show u.2.1 = tv u 1 from rfl)]; exact .head _
 | 2, _ => refine List.mem_append_right _ (List.mem_append_right _ ?_); rw [if_pos (show u.2.2 = tv u 2 from rfl)]; exact .head _
theorem tgB_ok {n : Nat} {T : List T3} (h : tgB n T = true) : TG n T := by
 unfold tgB at h
 simp only [Bool.and_eq_true, List.all_eq_true, List.any_eq_true, decide_eq_true_eq] at h
 obtain ⟨h1, h2, h3, h4, h5, h6, h7⟩ := h
 refine ⟨h1, h2, fun v hv k hk => ?_, fun v hv k hk => h4 v hv k (in3' hk), fun v hv k hk => ?_, fun p hp => h5 p (List.mem_range.2 hp), h6⟩
 ·obtain ⟨w, hw, j, hj, e⟩ := h3 v hv k (in3' hk)
  exact ⟨w, hw, j, lt3 hj, e⟩
 ·have hs : starB T (tv v k) = true := by
   apply h7
   rcases h4 v hv k (in3' hk) with q | ⟨q1, q2⟩
   ·rw [q]; exact .head _
   ·refine .tail _ (List.mem_map.2 ⟨(tv v k).toNat, List.mem_range.2 (by omega), by omega⟩)
  unfold starB at hs
  simp only [Bool.and_eq_true, List.all_eq_true, List.any_eq_true, decide_eq_true_eq] at hs
  obtain ⟨s1, s2, s3, s4⟩ := hs
  refine ⟨_, s1, s2, s3, fun u hu m hm he => ?_⟩
  have hc := cyc_mem hu hm
  rw [he] at hc
  obtain ⟨i, _, i1, i2⟩ := s4 _ hc
  exact ⟨i, i1, i2⟩
def openE (T : List T3) : List (Int × Int) := let E := T.flatMap eds; E.filter fun e => !(E.any fun e' => decide (e' = rev2 e))
def ghs (E : List (Int × Int)) : List T3 := E.map fun e => (e.2, e.1, -1)
def gAll (W H : Nat) (f : Nat → Bool) : List T3 := gTris W H f ++ ghs (openE (gTris W H f))
def gB (W H : Nat) (f : Nat → Bool) : Bool := tgB (gPts W H).length (gAll W H f) && (gAll W H f).all (madeV (gPts W H))
theorem gB_all : ∀ b0 b1 b2 b3 : Bool, gB 1 1 (bit4 b0 b1 b2 b3) = true ∧ gB 1 2 (bit4 b0 b1 b2 b3) = true ∧ gB 2 1 (bit4 b0 b1 b2 b3) = true ∧ gB 2 2 (bit4 b0 b1 b2 b3) = true := by decide +kernel
end Go.Proofs.Ytbanlhlggkdanaa
namespace Go.Proofs.Ytbanlhlggkdanaa
open Go.RowKit
theorem gB_true {W H : Nat} {f : Nat → Bool} (hW : W = 1 ∨ W = 2) (hH : H = 1 ∨ H = 2) : gB W H f = true := by
 have := gB_all (f 0) (f 1) (f 2) (f 3)
 unfold gB gAll at this ⊢
 rw [gTris_nf hW hH]
 rcases hW with rfl | rfl <;> rcases hH with rfl | rfl
 ·exact this.1
 ·exact this.2.1
 ·exact this.2.2.1
 ·exact this.2.2.2
theorem mem_openE {T : List T3} {e : Int × Int} : e ∈ openE T ↔ e ∈ T.flatMap eds ∧ ¬ rev2 e ∈ T.flatMap eds := by
 unfold openE
 dsimp only
 rw [List.mem_filter]
 constructor
 ·rintro ⟨h1, h2⟩
  refine ⟨h1, fun q => ?_⟩
  rw [Bool.not_eq_true', List.any_eq_false] at h2
  exact h2 _ q (by simp)
 ·rintro ⟨h1, h2⟩
  refine ⟨h1, ?_⟩
  rw [Bool.not_eq_true', List.any_eq_false]
  intro e' he' q
  rw [of_decide_eq_true q] at he'
  exact h2 he'
theorem slots_map (V : List (Nat × T3)) : (V.flatMap slots).map (·.2.2) = (V.map (·.2)).flatMap eds := by
 rw [List.map_flatMap, List.flatMap_map]
 rfl
theorem SM.keys {F : MapI} {s : BS} {V : List (Nat × T3)} (h : SM F s V) (hn : ((V.map (·.2)).flatMap eds).Nodup) : (s.L.map (·.1)).Perm (openE (V.map (·.2))) := by
 rw [List.perm_ext_iff_of_nodup h.si.kn (hn.sublist (by unfold openE; exact List.filter_sublist))]
 intro e
 rw [mem_openE, ← slots_map]
 constructor
 ·intro he
  obtain ⟨y, hy, rfl⟩ := List.mem_map.1 he
  obtain ⟨x, hx1, hx2, _, hx4⟩ := h.si.ex _ _ (mget_of_mem h.si.kn hy)
  refine ⟨List.mem_map.2 ⟨x, hx1, hx2⟩, fun q => ?_⟩
  obtain ⟨z, hz, hz2⟩ := List.mem_map.1 q
  exact hx4 z hz hz2
 ·rintro ⟨h1, h2⟩
  obtain ⟨x, hx, rfl⟩ := List.mem_map.1 h1
  exact mget_some_mem (h.si.op x hx (fun y hy q => h2 (List.mem_map.2 ⟨y, hy, q⟩)))
theorem stepT_same (F : MapI) (s : BS) (v : T3) : (stepT F s v).M.ats.length = s.M.ats.length ∧ (stepT F s v).M.pts = s.M.pts ∧ (stepT F s v).M.tris.length ≤ s.M.tris.length + 1 := by
 obtain ⟨_, _, j3, j4, j5⟩ := joinB_same F s.M.nextN.toNat v.1 v.2.1 v.2.2 ⟨s.M.make v.1 v.2.1 v.2.2, s.L, s.c⟩
 refine ⟨?_, j5, ?_⟩
 ·rw [show (stepT F s v).M.ats = (s.M.make v.1 v.2.1 v.2.2).ats from j4]
  unfold MD.make
  simp only [setAt_len]
 ·rw [show (stepT F s v).M.tris.length = (s.M.make v.1 v.2.1 v.2.2).tris.length from j3]
  unfold MD.make
  dsimp only
  split <;> simp
theorem foldT_same (F : MapI) : ∀ (l : List T3) (s : BS), (l.foldl (stepT F) s).M.ats.length = s.M.ats.length ∧ (l.foldl (stepT F) s).M.pts = s.M.pts ∧ (l.foldl (stepT F) s).M.tris.length ≤ s.M.tris.length + l.length
 | [], s => ⟨rfl, rfl, Nat.le_refl _⟩
 | v :: l, s => by
  obtain ⟨a1, a2, a3⟩ := stepT_same F s v
  obtain ⟨b1, b2, b3⟩ := foldT_same F l (stepT F s v)
  rw [List.foldl_cons, List.length_cons]
  exact ⟨b1.trans a1, b2.trans a2, by omega⟩
structure GM (F : MapI) (W H : Nat) (f : Nat → Bool) (M : MD) (V : List (Nat × T3)) : Prop where
 lm : LM F M.tris V
 tg : TG (gPts W H).length (V.map (·.2))
 mw : ∀ v, v ∈ V.map (·.2) → madeV (gPts W H) v = true
 pts : M.pts = gPts W H
 ats : M.ats.length = (gPts W H).length
 at_ : ∀ p : Nat, p < (gPts W H).length → ∃ y, y ∈ V ∧ M.ats[p]? = some (y.1 : Int) ∧ has3 p y.2
 len : M.tris.length ≤ 100
 pm : (V.map (·.2)).Perm (gAll W H f)
 fr : ∀ k, k ∈ M.free → 0 ≤ k ∧ k < M.tris.length
 fn : M.free.Nodup
 gn : ∀ k, k ∈ M.free → vw M.tris k.toNat = some (-2, -2, -2)
 al : ∀ q v, vw M.tris q = some v → (q : Int) ∈ M.free ∨ (q, v) ∈ V
 nf : ∀ x, x ∈ V → ¬ (x.1 : Int) ∈ M.free
theorem openE_len (T : List T3) : (openE T).length ≤ 3 * T.length := by
 have h1 : (openE T).length ≤ (T.flatMap eds).length := by unfold openE; exact List.length_filter_le _ _
 have h2 : (T.flatMap eds).length = 3 * T.length := by
  induction T with
  | nil => rfl
  | cons v T ih => rw [List.flatMap_cons, List.length_append, ih (by unfold openE; exact List.length_filter_le _ _), List.length_cons]; show 3 + 3 * T.length = _; omega
 omega
theorem grid_M {F : MapI} {W H : Nat} {f : Nat → Bool} {border : MapO} (hW : W = 1 ∨ W = 2) (hH : H = 1 ∨ H = 2) (hp : border.Perm (gridR F W H f).L) : ∃ V, GM F W H f (buildG F (gridR F W H f) border).M V := by
 have hB := gB_true (f := f) hW hH
 unfold gB at hB
 rw [Bool.and_eq_true, List.all_eq_true] at hB
 obtain ⟨hT0, hM0⟩ := hB
 have hT := tgB_ok hT0
 have hnd := hT.nd
 have hds := hT.ds
 unfold gAll at hnd hds
 rw [List.flatMap_append] at hnd
 have hn1 := (List.nodup_append.1 hnd).1
 have hgl : (gTris W H f).length ≤ 9 := by
  obtain ⟨a, b, c, rest, hr, hl, _⟩ := g_shape hW hH f
  rw [hr, List.length_cons]
  omega
 obtain ⟨V1, hS1, hV1⟩ := (bs0_SM F (gPts W H) (gHead W H f).1 (gHead W H f).2.1 (gHead W H f).2.2).many (gTris W H f) (fun v hv => hds v (List.mem_append_left _ hv)) (by simpa using hn1)
 rw [List.nil_append] at hS1
 have hS1 : SM F (gridR F W H f) V1 := hS1
 have hk := hS1.keys (by rw [hV1]; exact hn1)
 rw [hV1] at hk
 have hbk : (border.map (·.1)).Perm (openE (gTris W H f)) := (hp.map _).trans hk
 have hg : border.map (fun e => ((e.1.2, e.1.1, -1) : T3)) = ghs (border.map (·.1)) := by
  unfold ghs
  rw [List.map_map]
  rfl
 have hgp : (border.map (fun e => ((e.1.2, e.1.1, -1) : T3))).Perm (ghs (openE (gTris W H f))) := by
  rw [hg]; exact hbk.map _
 have hfull : (gTris W H f ++ border.map (fun e => ((e.1.2, e.1.1, -1) : T3))).Perm (gAll W H f) := hgp.append_left _
 have hn2 := (hfull.flatMap_right eds).nodup_iff.2 hT.nd
 rw [List.flatMap_append] at hn2
 have hbuild : buildG F (gridR F W H f) border = (border.map (fun e => ((e.1.2, e.1.1, -1) : T3))).foldl (stepT F) (gridR F W H f) := by
  unfold buildG
  rw [List.foldl_map]
  rfl
 obtain ⟨V2, hS2, hV2⟩ := hS1.many (border.map (fun e => ((e.1.2, e.1.1, -1) : T3))) (fun v hv => hT.ds v (hfull.mem_iff.1 (List.mem_append_right _ hv))) (by rw [flatMap_snd, hV1]; exact hn2)
 rw [← hbuild] at hS2
 have hVm : ((V1 ++ V2).map (·.2)).Perm (gAll W H f) := by rw [List.map_append, hV1, hV2]; exact hfull
 have hTG := hT.perm hVm.symm
 obtain ⟨a1, a2, a3⟩ := foldT_same F (gTris W H f) (bs0 (gPts W H) (gHead W H f).1 (gHead W H f).2.1 (gHead W H f).2.2)
 obtain ⟨b1, b2, b3⟩ := foldT_same F (border.map (fun e => ((e.1.2, e.1.1, -1) : T3))) (gridR F W H f)
 have hats : (buildG F (gridR F W H f) border).M.ats.length = (gPts W H).length := by
  rw [hbuild, b1]
  exact a1.trans (new_len (gPts W H) (gHead W H f).1 (gHead W H f).2.1 (gHead W H f).2.2)
 refine ⟨V1 ++ V2, hS2.lm, hTG, fun v hv => hM0 v (hVm.mem_iff.1 hv), ?_, hats, fun p hpn => ?_, ?_, hVm, hS2.fr, hS2.fn, hS2.gn, hS2.all, hS2.nf⟩
 ·rw [hbuild, b2]
  exact a2
 ·obtain ⟨v, hv, h3⟩ := hTG.al p hpn
  obtain ⟨x, hx, rfl⟩ := List.mem_map.1 hv
  obtain ⟨y, y1, y2, y3⟩ := hS2.at_ x hx p h3 (Int.natCast_nonneg p) (by rw [hats]; omega)
  exact ⟨y, y1, by simpa using y2, y3⟩
 ·rw [hbuild]
  have c1 : (bs0 (gPts W H) (gHead W H f).1 (gHead W H f).2.1 (gHead W H f).2.2).M.tris.length = 4 := by
   show (mesh0 _ _ _ _).tris.length = 4
   simp [mesh0, MD.drop, newM, newM0, MD.make, MD.link]
  have c2 : (border.map (fun e => ((e.1.2, e.1.1, -1) : T3))).length ≤ 3 * (gTris W H f).length := by
   rw [hgp.length_eq]
   unfold ghs
   rw [List.length_map]
   exact openE_len _
  have c3 : (gridR F W H f).M.tris.length ≤ 4 + (gTris W H f).length := by rw [← c1]; exact a3
  omega
theorem GM.snd {F : MapI} {W H : Nat} {f : Nat → Bool} {M : MD} {V : List (Nat × T3)} (h : GM F W H f M V) : sndP M.pts M.tris := by
 rw [h.pts]
 exact h.lm.snd h.tg h.mw
theorem GM.st {F : MapI} {W H : Nat} {f : Nat → Bool} {M : MD} {V : List (Nat × T3)} (h : GM F W H f M V) : StOk M.tris M.ats := h.lm.st h.tg h.snd h.ats h.at_
theorem GM.vok {F : MapI} {W H : Nat} {f : Nat → Bool} {M : MD} {V : List (Nat × T3)} (h : GM F W H f M V) : ∀ t, t ∈ M.tris → vOk M.pts.length t := by
 intro t ht k hk
 obtain ⟨q, hq⟩ := List.mem_iff_getElem?.1 ht
 rw [h.pts]
 rcases h.lm.al q _ (vw_iff.2 ⟨t, hq, rfl⟩) with p | p
 ·right; left
  simp only [Prod.mk.injEq] at p
  match k, hk with
  | 0, _ => exact p.1
  | 1, _ => exact p.2.1
  | 2, _ => exact p.2.2
 ·rcases h.tg.ok _ (List.mem_map.2 ⟨_, p, rfl⟩) k hk with r | r
  ·exact .inl r
  ·exact .inr (.inr r)
end Go.Proofs.Ytbanlhlggkdanaa
namespace Go.Proofs.Ytbanlhlggkdanaa
open Go.RowKit
theorem ent_36 : Enter Try.prog 36 = true := by kernel_rfl
theorem ent_67 : Enter Try.prog 67 = true := by kernel_rfl
def pla (tris : List Tr) (v x : Int) : Nat := match tris[x.toNat]? with
 | some t => (plc t v).toNat
 | none => 0
def arAt (tris : List Tr) (v fr : Int) (j : Nat) : Int × Nat := (itr tris v j fr, pla tris v (itr tris v j fr))
def arL (tris : List Tr) (v fr : Int) (N : Nat) : List (Int × Nat) := (List.range N).map (arAt tris v fr)
def encA (x : Int × Nat) : List Value := [.int .i64 x.1, .int .i64 (x.2 : Nat)]
structure ArH (tris : List Tr) (ats : List Int) (v fr : Int) (N : Nat) : Prop where
 v0 : 0 ≤ v
 at_ : ats[v.toNat]? = some fr
 n1 : 1 ≤ N
 n2 : N ≤ tris.length
 cl : ∀ j, 0 ≤ itr tris v j fr ∧ ∃ (t : Tr) (p : Nat), tris[(itr tris v j fr).toNat]? = some t ∧ plc t v = p ∧ p < 3
 en : itr tris v N fr = fr
 no : ∀ j, 0 < j → j < N → itr tris v j fr ≠ fr
theorem arL_step {tris : List Tr} {v fr : Int} {N j : Nat} (h : j < N) : (arL tris v fr N).take (j + 1) = (arL tris v fr N).take j ++ [arAt tris v fr j] := by
 unfold arL
 rw [List.take_add_one, List.getElem?_map, List.getElem?_range h]
 rfl
theorem arL_pre (l : List (Int × Nat)) (k : Nat) : l.take k <+: l := List.take_prefix k l
theorem arL_len {tris : List Tr} {v fr : Int} {N : Nat} : (arL tris v fr N).length = N := by simp [arL]
def arFs (bm bv B : Nat) (h : Mh) (pts : List (Int × Int)) (tris : List Tr) (ats : List Int) (v : Int) : List Res :=
 sliceR 1 (some ⟨bm, 0, none⟩) 1 [.pointer (some ⟨B, 0, none⟩)] :: sliceR 1 (some ⟨bv, 0, none⟩) 1 [.int .i64 v] :: atFs B h pts tris ats
set_option maxRecDepth 100000 in
set_option maxHeartbeats 1000000 in
theorem around_c {B : Nat} {v : Int} : Tri Try.prog 36 [.pointer (some ⟨B, 0, none⟩), .int .i64 v] [] [] (RetX (fun _ : Nat × Nat => True) (fun b => .func (.func 67) #[] #[.pointer (some ⟨b.1, 0, none⟩), .pointer (some ⟨b.2, 0, none⟩)]) (fun _ => []) (fun b => [sliceR 1 (some ⟨b.1, 0, none⟩) 1 [.pointer (some ⟨B, 0, none⟩)], sliceR 1 (some ⟨b.2, 0, none⟩) 1 [.int .i64 v]])) := by
 refine Tri_of (N := 6) Try.func36 rfl ent_36 rfl rfl ?_
 intro w0 S0 T0
 show CJ _ _ _ [(0, _), (1, _)] _ _
 refine CJ_seq ?_
 refine CJ_reg ?_
 refine LJ_box (cs := #[_]) rfl rfl rfl rfl ?_
 intro b1
 refine LJ_freeze ?_
 refine LJ_addF (r' := sliceR 1 (some ⟨b1, 0, none⟩) 1 [.pointer (some ⟨B, 0, none⟩)]) (.head _) (fun w S h => cellsR_slice (n := 1) rfl w S h) ?_
 refine LJ_box (cs := #[_]) rfl rfl rfl rfl ?_
 intro b2
 refine LJ_freeze ?_
 refine LJ_addF (r' := sliceR 1 (some ⟨b2, 0, none⟩) 1 [.int .i64 v]) (.head _) (fun w S h => cellsR_slice (n := 1) rfl w S h) ?_
 refine LJ_y rfl rfl (YJ_assign rfl) ?_
 refine LJ_nil ?_
 refine QJ_then ?_
 refine CJ_seq ?_
 refine CJ_reg ?_
 refine LJ_y rfl rfl (YJ_makeFunc (vs := []) (us := [_, _]) rfl rfl) ?_
 refine LJ_y rfl rfl (YJ_assign rfl) ?_
 refine LJ_nil ?_
 refine QJ_then ?_
 refine CJ_ret ?_
 refine QJ_fin (.inl rfl) (μ' := []) (μr := _) (φ' := [sliceR 1 (some ⟨b1, 0, none⟩) 1 [.pointer (some ⟨B, 0, none⟩)], sliceR 1 (some ⟨b2, 0, none⟩) 1 [.int .i64 v]]) (res_tmp rfl rfl) (List.Perm.refl _) (AllIn.sub (And.intro m2 (And.intro m0 trivial))) ?_
 exact ⟨(b1, b2), trivial, rfl, rfl, rfl⟩
set_option maxRecDepth 100000 in
set_option maxHeartbeats 4000000 in
theorem around1_c {bm bv B : Nat} {h : Mh} {pts : List (Int × Int)} {tris : List Tr} {ats : List Int} {v fr : Int} {N : Nat} {l : Nat} {J Jx : List (Int × Nat) → List Res → List Res → Prop} {φx : List Res} (hlen : tris.length ≤ 1000000) (hna : h.na = ats.length) (hal : ats.length ≤ 1000000) (hA : ArH tris ats v fr N)
  (hy : ∀ pre x μ φ, (pre ++ [x]) <+: arL tris v fr N → J pre μ φ → YTri Try.prog l (encA x) μ (φ ++ (arFs bm bv B h pts tris ats v ++ φx)) (fun v μ' φ' => (v = .bool true ∧ J (pre ++ [x]) μ' φ') ∨ (v = .bool false ∧ Jx (pre ++ [x]) μ' φ')))
  {μ φ : List Res} (hJ : J [] μ φ) : Tri Try.prog 67 [.func (.yield l) #[] #[], .pointer (some ⟨bm, 0, none⟩), .pointer (some ⟨bv, 0, none⟩)] μ (φ ++ (arFs bm bv B h pts tris ats v ++ φx)) (fun _ μ' φ' => J (arL tris v fr N) μ' φ' ∨ ∃ pre, pre <+: arL tris v fr N ∧ Jx pre μ' φ') := by
 refine Tri_of (N := 46) Try.func67 rfl ent_67 rfl rfl ?_
 intro w0 S0 T0
 show CJ _ _ _ [(0, _), (1, _), (2, _)] _ _
 have hv0 := hA.v0
 have hat := hA.at_
 have hvl := (List.getElem?_eq_some_iff.1 hat).1
 refine CJ_weak (σ' := [(0, _), (1, _), (2, _)]) (μ' := μ) (μr := []) (φ' := arFs bm bv B h pts tris ats v ++ (φ ++ φx)) ⟨rfl, rfl, rfl, trivial⟩ (by simp) (fun r h => mem_sw r h) ?_
 refine CJ_seq ?_
 refine CJ_regD mix (by kernel_rfl) (fun _ _ _ _ _ h => h) _ _ (fun _ h => h) (fun _ h => h) ?_
 refine AJ_y 0 rfl (by kernel_rfl) (by kernel_rfl) rfl rfl (YJ_loadFactP (A := some ⟨bm, 0, none⟩) (j := 0) rfl rfl tyi_28 m0 rfl) ?_
 refine AJ_y 1 rfl (by kernel_rfl) (by kernel_rfl) rfl rfl (YJ_nilCheck rfl) ?_
 refine AJ_y 2 rfl (by kernel_rfl) (by kernel_rfl) rfl rfl (YJ_fieldOwn rfl fld_57_3 rfl) ?_
 refine AJ_y 3 rfl (by kernel_rfl) (by kernel_rfl) rfl rfl (YJ_loadFactP (A := some ⟨B, 0, none⟩) (j := 3) rfl rfl tyi_55 m2 rfl) ?_
 refine AJ_val (v := .slice h.A ats.length h.ca) (by rw [hna]) ?_
 refine AJ_y 4 rfl (by kernel_rfl) (by kernel_rfl) rfl rfl (YJ_loadFactP (A := some ⟨bv, 0, none⟩) (j := 0) rfl rfl tyi_3 m1 rfl) ?_
 refine AJ_y 5 rfl (by kernel_rfl) (by kernel_rfl) rfl rfl (YJ_ixFact (n' := ats.length) rfl rfl elt_55 m5 (by decide) (by omega) (by omega) (by omega)) ?_
 refine AJ_y 6 rfl (by kernel_rfl) (by kernel_rfl) rfl rfl (YJ_loadFactP (A := h.A) (j := v.toNat) (v := .int .i64 fr) rfl (congrArg _ (by omega)) tyi_3 m5 (by rw [Iv, List.getElem?_map, hat]; rfl)) ?_
 refine AJ_y 7 rfl (by kernel_rfl) (by kernel_rfl) rfl rfl (YJ_assign rfl) ?_
 refine AJ_done (by kernel_rfl) ?_
 refine QJ_then ?_
 refine CJ_seq ?_
 refine CJ_reg ?_
 refine LJ_y rfl rfl (YJ_move rfl) ?_
 refine LJ_y rfl rfl (YJ_assign rfl) ?_
 refine LJ_nil ?_
 refine QJ_then ?_
 refine CJ_block ?_
 refine CJ_loop (F := fun (i : Nat × List Res × List Res) => ⟨[(0, .func (.yield l) #[] #[]), (1, .pointer (some ⟨bm, 0, none⟩)), (2, .pointer (some ⟨bv, 0, none⟩)), (4, .int .i64 fr), (5, .int .i64 (itr tris v i.1 fr))], i.2.1, (arFs bm bv B h pts tris ats v ++ (i.2.2 ++ φx))⟩) (I := fun (i : Nat × List Res × List Res) => i.1 < N ∧ J ((arL tris v fr N).take i.1) i.2.1 i.2.2) (m := fun (i : Nat × List Res × List Res) => N - i.1) (0, μ, φ) (μr := []) ⟨hA.n1, hJ⟩ (And.intro rfl (And.intro rfl (And.intro rfl (And.intro rfl (And.intro rfl (trivial)))))) ((by simp)) (fun _ h => h) ?_
 rintro ⟨j, μ1, φ1⟩ ⟨hjN, hJ⟩
 try dsimp only at hjN
 try dsimp only at hJ
 show CJ _ _ _ [(0, .func (.yield l) #[] #[]), (1, .pointer (some ⟨bm, 0, none⟩)), (2, .pointer (some ⟨bv, 0, none⟩)), (4, .int .i64 fr), (5, .int .i64 (itr tris v j fr))] μ1 (arFs bm bv B h pts tris ats v ++ (φ1 ++ φx))
 obtain ⟨hx0, t, p, ht, hpl, hp3⟩ := hA.cl j
 have hxl := (List.getElem?_eq_some_iff.1 ht).1
 have hap : (((arAt tris v fr j).2 : Nat) : Int) = (p : Int) := by
  unfold arAt pla
  dsimp only
  rw [ht]
  dsimp only
  rw [hpl]
  rfl
 have hit : itr tris v (j + 1) fr = t.n ((p + 1) % 3) := by
  show nxt tris v (itr tris v j fr) = _
  unfold nxt
  rw [ht]
  dsimp only
  rw [hpl]
  rfl
 refine CJ_seq ?_
 refine CJ_seq ?_
 refine CJ_reg ?_
 refine LJ_y rfl rfl (YJ_move rfl) ?_
 refine LJ_y rfl rfl (YJ_bin rfl rfl rfl) ?_
 refine LJ_nil ?_
 refine QJ_then ?_
 refine CJ_cond rfl (fun h16 => ?_) (fun h16 => ?_)
 ·simp only [decide_eq_true_eq] at h16
  refine CJ_skip ?_
  refine QJ_then ?_
  refine CJ_block ?_
  refine CJ_seq ?_
  refine CJ_regD mix (by kernel_rfl) (fun _ _ _ _ _ h => h) _ _ (fun _ h => h) (fun _ h => h) ?_
  refine AJ_y 0 rfl (by kernel_rfl) (by kernel_rfl) rfl rfl (YJ_loadFactP (A := some ⟨bm, 0, none⟩) (j := 0) rfl rfl tyi_28 m0 rfl) ?_
  refine AJ_y 1 rfl (by kernel_rfl) (by kernel_rfl) rfl rfl (YJ_nilCheck rfl) ?_
  refine AJ_y 2 rfl (by kernel_rfl) (by kernel_rfl) rfl rfl (YJ_fieldOwn rfl fld_57_1 rfl) ?_
  refine AJ_y 3 rfl (by kernel_rfl) (by kernel_rfl) rfl rfl (YJ_loadFactP (A := some ⟨B, 0, none⟩) (j := 1) rfl rfl tyi_54 m2 rfl) ?_
  refine AJ_y 4 rfl (by kernel_rfl) (by kernel_rfl) rfl rfl (YJ_move rfl) ?_
  refine AJ_y 5 rfl (by kernel_rfl) (by kernel_rfl) rfl rfl (YJ_ixFact rfl rfl elt_54 m4 (by decide) (by omega) (by omega) (by omega)) ?_
  refine AJ_y 6 rfl (by kernel_rfl) (by kernel_rfl) rfl rfl (YJ_loadFactN (vs := [.int .i64 t.v0, .int .i64 t.v1, .int .i64 t.v2, .int .i64 t.n0, .int .i64 t.n1, .int .i64 t.n2, .bool t.f0, .bool t.f1, .bool t.f2]) (xs := trCells tris) rfl tyi_37 m4 (trCells_row ht) rfl) ?_
  refine AJ_y 7 rfl (by kernel_rfl) (by kernel_rfl) rfl rfl (YJ_loadFactP (A := some ⟨bv, 0, none⟩) (j := 0) rfl rfl tyi_3 m1 rfl) ?_
  refine AJ_call0 8 rfl (by kernel_rfl) rfl rfl rfl rfl rfl (place_c (t := t) (v := v)) (fun _ h => nomatch h) ?_
  refine AJ_val (v := .int .i64 (p : Nat)) (congrArg (Value.int .i64) hpl) ?_
  refine AJ_y 9 rfl (by kernel_rfl) (by kernel_rfl) rfl rfl (YJ_assign rfl) ?_
  refine AJ_done (by kernel_rfl) ?_
  refine QJ_then ?_
  refine CJ_seq ?_
  refine CJ_seq ?_
  refine CJ_regY ?_
  refine LY_y rfl rfl (YJ_move rfl) ?_
  refine LY_y rfl rfl (YJ_move rfl) ?_
  refine LY_val (v := .int .i64 (arAt tris v fr j).1) (rfl) ?_
  refine LY_y rfl rfl (YJ_move rfl) ?_
  refine LY_val (v := .int .i64 ((arAt tris v fr j).2 : Nat)) (congrArg (Value.int .i64) hap.symm) ?_
  refine LY_yield rfl rfl rfl rfl (hy _ (arAt tris v fr j) μ1 φ1 (by rw [← arL_step hjN]; exact arL_pre _ _) hJ) (μr := []) (by simp) (fun r h => mem_sw r h) ?_
  intro w9 μ2 φ2 hpost
  obtain ⟨c, rfl, hc⟩ : ∃ c : Bool, w9 = .bool c ∧ ((c = true ∧ J ((arL tris v fr N).take (j + 1)) μ2 φ2) ∨ (c = false ∧ Jx ((arL tris v fr N).take (j + 1)) μ2 φ2)) := by
   rw [arL_step hjN]
   rcases hpost with ⟨rfl, h⟩ | ⟨rfl, h⟩
   ·exact ⟨true, rfl, .inl ⟨rfl, h⟩⟩
   ·exact ⟨false, rfl, .inr ⟨rfl, h⟩⟩
  refine LY_boolC (fun h29 => ?_) (fun h29 => ?_)
  ·skip
   replace hc : J ((arL tris v fr N).take (j + 1)) μ2 φ2 := by
    rcases hc with ⟨_, q⟩ | ⟨q, _⟩
    ·exact q
    ·rw [h29] at q; cases q
   refine LY_y rfl rfl (YJ_not rfl) ?_
   refine LY_nil ?_
   refine QJ_then ?_
   refine CJ_condF rfl ?_
   refine CJ_skip ?_
   refine QJ_then ?_
   refine CJ_seq ?_
   refine CJ_reg ?_
   refine LJ_y rfl rfl (YJ_loadFactP (A := some ⟨bm, 0, none⟩) (j := 0) rfl rfl tyi_28 (List.mem_append_right _ (List.mem_append_left _ m0)) rfl) ?_
   refine LJ_y rfl rfl (YJ_nilCheck rfl) ?_
   refine LJ_y rfl rfl (YJ_fieldOwn rfl fld_57_1 rfl) ?_
   refine LJ_y rfl rfl (YJ_loadFactP (A := some ⟨B, 0, none⟩) (j := 1) rfl rfl tyi_54 (List.mem_append_right _ (List.mem_append_left _ m2)) rfl) ?_
   refine LJ_y rfl rfl (YJ_move rfl) ?_
   refine LJ_y rfl rfl (YJ_move rfl) ?_
   refine LJ_y rfl rfl (YJ_bin rfl rfl (iop_add (by omega))) ?_
   refine LJ_y rfl rfl (YJ_rem rfl rfl (by first | decide | omega)) ?_
   refine LJ_val (v := .int .i64 (((p + 1) % 3 : Nat) : Int)) (congrArg (Value.int .i64) (tm3 (j := 1) hp3 (by decide))) ?_
   refine LJ_y rfl rfl (YJ_ixFact rfl rfl elt_54 (List.mem_append_right _ (List.mem_append_left _ m4)) (by decide) (by omega) (by omega) (by omega)) ?_
   refine LJ_y rfl rfl (YJ_fieldAddr rfl fld_37_1) ?_
   refine LJ_y rfl rfl (YJ_ixArrP rfl rfl arrt_34 (by omega) (by omega)) ?_
   refine LJ_y rfl rfl (YJ_loadFactP (A := h.T) (j := (itr tris v j fr).toNat * 9 + (3 + (p + 1) % 3)) rfl (by rw [Addr.add_add, Addr.add_add]; congr 1; omega) tyi_3 (List.mem_append_right _ (List.mem_append_left _ m4)) (trCells_n ht (Nat.mod_lt _ (by decide)))) ?_
   refine LJ_val (v := .int .i64 (itr tris v (j + 1) fr)) (congrArg (Value.int .i64) hit.symm) ?_
   refine LJ_y rfl rfl (YJ_assign rfl) ?_
   refine LJ_nil ?_
   refine QJ_then ?_
   refine CJ_seq ?_
   refine CJ_reg ?_
   refine LJ_y rfl rfl (YJ_move rfl) ?_
   refine LJ_y rfl rfl (YJ_move rfl) ?_
   refine LJ_y rfl rfl (YJ_bin rfl rfl rfl) ?_
   refine LJ_nil ?_
   refine QJ_then ?_
   refine CJ_cond rfl (fun h45 => ?_) (fun h45 => ?_)
   ·simp only [decide_eq_true_eq] at h45
    have hjN9 : j + 1 = N := by
     apply Classical.byContradiction
     intro q
     exact hA.no (j + 1) (by omega) (by omega) h45
    refine CJ_ret ?_
    refine QJ_in_ret ?_
    refine QJ_then_ret ?_
    refine QJ_in_ret ?_
    exact QJ_fin (.inl rfl) (μ' := μ2) (μr := []) (φ' := φ2) (res_none rfl) (by simp) (fun r h => List.mem_append_left _ h) (.inl (by rw [hjN9, List.take_of_length_le (by rw [arL_len]; exact Nat.le_refl _)] at hc; exact hc))
   ·simp only [decide_eq_false_iff_not] at h45
    have hjN9 : j + 1 < N := by
     rcases Nat.lt_or_ge (j + 1) N with q | q
     ·exact q
     ·exact absurd (by rw [show j + 1 = N by omega]; exact hA.en) h45
    refine CJ_skip ?_
    refine QJ_in_normal ?_
    refine QJ_round (F := fun (i : Nat × List Res × List Res) => ⟨[(0, .func (.yield l) #[] #[]), (1, .pointer (some ⟨bm, 0, none⟩)), (2, .pointer (some ⟨bv, 0, none⟩)), (4, .int .i64 fr), (5, .int .i64 (itr tris v i.1 fr))], i.2.1, (arFs bm bv B h pts tris ats v ++ (i.2.2 ++ φx))⟩) (I := fun (i : Nat × List Res × List Res) => i.1 < N ∧ J ((arL tris v fr N).take i.1) i.2.1 i.2.2) (m := fun (i : Nat × List Res × List Res) => N - i.1) (i := (j, μ1, φ1)) ((j + 1, μ2, φ2)) (μr := []) ⟨hjN9, hc⟩ (by dsimp only; omega) (And.intro rfl (And.intro rfl (And.intro rfl (And.intro rfl (And.intro rfl (trivial)))))) (by simp) (fun r h => mem_sub3 r h)
  ·skip
   replace hc : Jx ((arL tris v fr N).take (j + 1)) μ2 φ2 := by
    rcases hc with ⟨q, _⟩ | ⟨_, q⟩
    ·rw [h29] at q; cases q
    ·exact q
   refine LY_y rfl rfl (YJ_not rfl) ?_
   refine LY_nil ?_
   refine QJ_then ?_
   refine CJ_condT rfl ?_
   refine CJ_ret ?_
   refine QJ_then_ret ?_
   refine QJ_in_ret ?_
   refine QJ_then_ret ?_
   refine QJ_in_ret ?_
   exact QJ_fin (.inl rfl) (μ' := μ2) (μr := []) (φ' := φ2) (res_none rfl) (by simp) (fun r h => List.mem_append_left _ h) (.inr ⟨_, arL_pre _ _, hc⟩)
 ·simp only [decide_eq_false_iff_not] at h16
  exact absurd hx0 (by omega)
theorem around_it {bm bv B : Nat} {h : Mh} {pts : List (Int × Int)} {tris : List Tr} {ats : List Int} {v fr : Int} {N : Nat} (hlen : tris.length ≤ 1000000) (hna : h.na = ats.length) (hal : ats.length ≤ 1000000) (hA : ArH tris ats v fr N) : ITri Try.prog 67 [.pointer (some ⟨bm, 0, none⟩), .pointer (some ⟨bv, 0, none⟩)] encA (arL tris v fr N) (arFs bm bv B h pts tris ats v) :=
 ⟨by kernel_rfl, fun _ _ _ _ hy _ _ hJ => around1_c hlen hna hal hA hy hJ⟩
end Go.Proofs.Ytbanlhlggkdanaa
namespace Go.Proofs.Ytbanlhlggkdanaa
open Go.RowKit
theorem ent_37 : Enter Try.prog 37 = true := by kernel_rfl
theorem zer_4 : zer Try.prog 4 = some (.bool false) := by kernel_rfl
theorem res_cell3 {σ : List (Nat × Value)} {μ φ : List Res} {fn : Func} {P : Program} {t1 t2 t3 : Tmp} {b1 b2 b3 : Nat} {c1 c2 c3 d1 d2 d3 : TypeId} {v1 v2 v3 : Value} (hfn : fn.results = #[.cell t1 c1, .cell t2 c2, .cell t3 c3]) (h1 : lk t1 σ = some (.pointer (some ⟨b1, 0, none⟩))) (h2 : lk t2 σ = some (.pointer (some ⟨b2, 0, none⟩))) (h3 : lk t3 σ = some (.pointer (some ⟨b3, 0, none⟩)))
  (m1 : cellsR b1 #[v1] d1 ∈ μ) (m2 : cellsR b2 #[v2] d2 ∈ μ) (m3 : cellsR b3 #[v3] d3 ∈ μ) (k1 : tyi P c1 = some (false, 1)) (k2 : tyi P c2 = some (false, 1)) (k3 : tyi P c3 = some (false, 1)) :
  ∀ a w, Slots σ a → Hold w μ → Hold w φ → (results fn a.tmps).run P w = .ok (.tuple #[v1, v2, v3]) w := fun a w hs hmu _ => by
 obtain ⟨S1, e1, _⟩ := hmu _ m1
 obtain ⟨S2, e2, _⟩ := hmu _ m2
 obtain ⟨S3, e3, _⟩ := hmu _ m3
 have q1 := hs t1 _ h1
 have q2 := hs t2 _ h2
 have q3 := hs t3 _ h3
 have r1 := run_loadVar1 (P := P) (w := w) (a := ⟨b1, 0, none⟩) k1 (by rw [cell_of_row w b1 0 #[v1] d1 (0, 0) e1]; rfl)
 have r2 := run_loadVar1 (P := P) (w := w) (a := ⟨b2, 0, none⟩) k2 (by rw [cell_of_row w b2 0 #[v2] d2 (0, 0) e2]; rfl)
 have r3 := run_loadVar1 (P := P) (w := w) (a := ⟨b3, 0, none⟩) k3 (by rw [cell_of_row w b3 0 #[v3] d3 (0, 0) e3]; rfl)
 simp [results, hfn, q1, q2, q3, asAddr, r1, r2, r3]
theorem vw3_get {t : Tr} {k : Nat} (hk : k < 3) : (#[.int .i64 t.v0, .int .i64 t.v1, .int .i64 t.v2] : Array Value)[0 + ((k : Nat) : Int).toNat * 1]? = some (.int .i64 (t.v k)) := by
 match k, hk with
 | 0, _ => rfl
 | 1, _ => rfl
 | 2, _ => rfl
def isE (t : Tr) (k : Nat) (a b : Int) : Prop := t.v ((k + 1) % 3) = a ∧ t.v ((k + 2) % 3) = b
def FndOk (tris : List Tr) (ats : List Int) (a b : Int) (r : Int × Int × Bool) : Prop :=
 (r = (-1, 0, false) ∧ (max a b < 0 ∨ a = b ∨ ∃ fr N, ArH tris ats (max a b) fr N ∧ ∀ x, x ∈ arL tris (max a b) fr N → ∀ t, tris[x.1.toNat]? = some t → ∀ k, k < 3 → ¬ isE t k a b)) ∨
 ∃ (q : Int) (t : Tr) (k : Nat), 0 ≤ q ∧ tris[q.toNat]? = some t ∧ k < 3 ∧ isE t k a b ∧ r = (q, (k : Int), true)
theorem ar_get {tris : List Tr} {ats : List Int} {v fr : Int} {N : Nat} (h : ArH tris ats v fr N) {x : Int × Nat} (hx : x ∈ arL tris v fr N) : 0 ≤ x.1 ∧ ∃ t, tris[x.1.toNat]? = some t := by
 obtain ⟨j, _, rfl⟩ := List.mem_map.1 hx
 obtain ⟨h0, t, _, ht, _⟩ := h.cl j
 exact ⟨h0, t, ht⟩
set_option maxRecDepth 100000 in
set_option maxHeartbeats 16000000 in
theorem find9_c {B : Nat} {h : Mh} {pts : List (Int × Int)} {tris : List Tr} {ats : List Int} {a b : Int} (hlen : tris.length ≤ 1000000) (hna : h.na = ats.length) (hal : ats.length ≤ 1000000) (hAr : 0 ≤ max a b → a ≠ b → ∃ fr N, ArH tris ats (max a b) fr N) : Tri Try.prog 37 [.pointer (some ⟨B, 0, none⟩), .int .i64 a, .int .i64 b] [] (atFs B h pts tris ats) (RetX (fun r : Int × Int × Bool => FndOk tris ats a b r) (fun r => .tuple #[.int .i64 r.1, .int .i64 r.2.1, .bool r.2.2]) (fun _ => []) (fun _ => [])) := by
 refine Tri_ofM (N := 58) Try.func37 rfl ent_37 rfl rfl ?_
 intro w0 S0 T0
 show CJ _ _ _ [(0, _), (1, _), (2, _)] _ _
 refine CJ_seq ?_
 refine CJ_reg ?_
 refine LJ_box (cs := #[_]) rfl rfl rfl rfl ?_
 intro b1
 refine LJ_box (cs := #[_]) rfl rfl rfl rfl ?_
 intro b2
 refine LJ_box (cs := #[_]) rfl rfl rfl rfl ?_
 intro b3
 refine LJ_alloc (cs := #[_]) rfl rfl zer_3 rfl ?_
 intro b4
 refine LJ_alloc (cs := #[_]) rfl rfl zer_3 rfl ?_
 intro b5
 refine LJ_alloc (cs := #[_]) rfl rfl zer_4 rfl ?_
 intro b6
 refine LJ_nil ?_
 refine QJ_then ?_
 refine CJ_seq ?_
 refine CJ_reg ?_
 refine LJ_y rfl rfl (YJ_loadL rfl tyi_3 m4 rfl) ?_
 refine LJ_y rfl rfl (YJ_loadL rfl tyi_3 m3 rfl) ?_
 refine LJ_y rfl rfl (YJ_max2 rfl rfl) ?_
 refine LJ_y rfl rfl (YJ_assign rfl) ?_
 refine LJ_nil ?_
 refine QJ_then ?_
 refine CJ_seq ?_
 refine CJ_seq ?_
 refine CJ_reg ?_
 refine LJ_y rfl rfl (YJ_move rfl) ?_
 refine LJ_y rfl rfl (YJ_bin rfl rfl rfl) ?_
 refine LJ_y rfl rfl (YJ_move rfl) ?_
 refine LJ_boolC (fun h18 => ?_) (fun h18 => ?_)
 ·simp only [decide_eq_true_eq] at h18
  refine LJ_skip rfl rfl ?_
  refine LJ_skip rfl rfl ?_
  refine LJ_skip rfl rfl ?_
  refine LJ_y rfl rfl (YJ_pickT rfl rfl) ?_
  refine LJ_nil ?_
  refine QJ_then ?_
  refine CJ_condT rfl ?_
  refine CJ_seq ?_
  refine CJ_reg ?_
  refine LJ_store (cs' := #[_]) (μ' := [_, _, _, _, _, _]) 2 rfl rfl rfl rfl tyi_3 rfl (Nat.le_of_ble_eq_true rfl) rfl rfl rfl ?_
  refine LJ_store (cs' := #[_]) (μ' := [_, _, _, _, _, _]) 1 rfl rfl rfl rfl tyi_3 rfl (Nat.le_of_ble_eq_true rfl) rfl rfl rfl ?_
  refine LJ_store (cs' := #[_]) (μ' := [_, _, _, _, _, _]) 0 rfl rfl rfl rfl tyi_4 rfl (Nat.le_of_ble_eq_true rfl) rfl rfl rfl ?_
  refine LJ_nil ?_
  refine QJ_then ?_
  refine CJ_ret ?_
  refine QJ_then_ret ?_
  refine QJ_finM (.inl rfl) [] rfl (μ' := []) (μr := [_, _, _, _, _, _]) (φ' := []) (res_cell3 rfl rfl rfl rfl m2 m1 m0 tyi_3 tyi_3 tyi_4) (permI [] rfl) (fun _ h => nomatch h) ?_
  exact ⟨(-1, 0, false), .inl ⟨rfl, .inl h18⟩, rfl, rfl, rfl⟩
 ·simp only [decide_eq_false_iff_not] at h18
  refine LJ_y rfl rfl (YJ_loadL rfl tyi_3 m4 rfl) ?_
  refine LJ_y rfl rfl (YJ_loadL rfl tyi_3 m3 rfl) ?_
  refine LJ_y rfl rfl (YJ_bin rfl rfl rfl) ?_
  refine LJ_y rfl rfl (YJ_pickF rfl rfl) ?_
  refine LJ_nil ?_
  refine QJ_then ?_
  refine CJ_cond rfl (fun h22 => ?_) (fun h22 => ?_)
  ·simp only [decide_eq_true_eq] at h22
   refine CJ_seq ?_
   refine CJ_reg ?_
   refine LJ_store (cs' := #[_]) (μ' := [_, _, _, _, _, _]) 2 rfl rfl rfl rfl tyi_3 rfl (Nat.le_of_ble_eq_true rfl) rfl rfl rfl ?_
   refine LJ_store (cs' := #[_]) (μ' := [_, _, _, _, _, _]) 1 rfl rfl rfl rfl tyi_3 rfl (Nat.le_of_ble_eq_true rfl) rfl rfl rfl ?_
   refine LJ_store (cs' := #[_]) (μ' := [_, _, _, _, _, _]) 0 rfl rfl rfl rfl tyi_4 rfl (Nat.le_of_ble_eq_true rfl) rfl rfl rfl ?_
   refine LJ_nil ?_
   refine QJ_then ?_
   refine CJ_ret ?_
   refine QJ_then_ret ?_
   refine QJ_finM (.inl rfl) [] rfl (μ' := []) (μr := [_, _, _, _, _, _]) (φ' := []) (res_cell3 rfl rfl rfl rfl m2 m1 m0 tyi_3 tyi_3 tyi_4) (permI [] rfl) (fun _ h => nomatch h) ?_
   exact ⟨(-1, 0, false), .inl ⟨rfl, .inr (.inl h22)⟩, rfl, rfl, rfl⟩
  ·simp only [decide_eq_false_iff_not] at h22
   obtain ⟨fr, N, hA⟩ := hAr (by omega) h22
   refine CJ_skip ?_
   refine QJ_then ?_
   refine CJ_seq ?_
   refine CJ_seq ?_
   refine CJ_reg ?_
   refine LJ_y rfl rfl (YJ_loadL rfl tyi_28 m5 rfl) ?_
   refine LJ_y rfl rfl (YJ_move rfl) ?_
   refine LJ_callX rfl rfl rfl rfl rfl (around_c (B := B)) (fun _ h => nomatch h) ?_
   rintro ⟨bm, bv⟩ _
   dsimp only [List.cons_append, List.nil_append]
   refine LJ_nil ?_
   refine QJ_then ?_
   refine CJ_block ?_
   refine CJ_rangeFunc (μr := []) rfl (around_it (h := h) (pts := pts) hlen hna hal hA) (fun r h => h) (fun _ => rfl) (by kernel_rfl) (L := { ι := Unit, I := fun pre _ => ∀ x, x ∈ pre → ∀ t, tris[x.1.toNat]? = some t → ∀ k, k < 3 → ¬ isE t k a b, F := fun _ _ => ([cellsR b4 #[.int .i64 0] 3, cellsR b5 #[.int .i64 0] 3, cellsR b6 #[.bool false] 4, cellsR b3 #[.int .i64 b] 3, cellsR b2 #[.int .i64 a] 3, cellsR b1 #[.pointer (some ⟨B, 0, none⟩)] 28], []), κ := Int × Nat, Ix := fun c pre x => c = .ret ∧ 0 ≤ x.1 ∧ x.2 < 3 ∧ ∃ t, tris[x.1.toNat]? = some t ∧ isE t x.2 a b, Fx := fun _ x => ([cellsR b4 #[.int .i64 x.1] 3, cellsR b5 #[.int .i64 (x.2 : Nat)] 3, cellsR b6 #[.bool true] 4, cellsR b3 #[.int .i64 b] 3, cellsR b2 #[.int .i64 a] 3, cellsR b1 #[.pointer (some ⟨B, 0, none⟩)] 28], []) }) () (fun _ h => nomatch h) (permI [2, 1] rfl) (fun _ h => nomatch h) ?_ ?_ ?_
   ·intro lR DR fnR tmpsR WR SR TR pre xR iR hpre hI
    obtain ⟨q, p⟩ := xR
    obtain ⟨hq0, t, ht⟩ := ar_get hA (hpre.subset (List.mem_append_right _ (.head _)) : (q, p) ∈ arL tris (max a b) fr N)
    dsimp only at hq0 ht
    have hql := (List.getElem?_eq_some_iff.1 ht).1
    show RJ _ _ _ _ _ ((27, _) :: (26, _) :: _) (objR lR _ :: defR DR :: _ :: _ :: _ :: _ :: _ :: _ :: []) _
    refine RJ_reg (by kernel_rfl) ?_
    refine LJ_y rfl rfl (YJ_assign rfl) ?_
    refine LJ_nil ?_
    refine QJ_begin (μr := [_, _, _, _, _, _, _]) (permI [] rfl) ?_
    refine RJ_block ?_
    refine RJ_seq ?_
    refine RJ_reg (by kernel_rfl) ?_
    refine LJ_y rfl rfl (YJ_move rfl) ?_
    refine LJ_nil ?_
    refine QJ_thenR (by repeat with_reducible first | exact no_round | exact no_begin | apply no_then | apply no_block) ?_
    refine RJ_block ?_
    refine RJ_loopF (F := fun (i : Nat) => ⟨[(3, .pointer (some ⟨b1, 0, none⟩)), (4, .pointer (some ⟨b2, 0, none⟩)), (5, .pointer (some ⟨b3, 0, none⟩)), (6, .pointer (some ⟨b4, 0, none⟩)), (7, .pointer (some ⟨b5, 0, none⟩)), (8, .pointer (some ⟨b6, 0, none⟩)), (10, .int .i64 q), (28, .int .i64 (i : Nat))], [], []⟩) (I := fun (i : Nat) => i ≤ 3 ∧ ∀ j, j < i → ¬ isE t j a b) (m := fun (i : Nat) => 3 - i) 0 (μr := [_, _, _, _, _, _, _, _]) ⟨Nat.zero_le _, fun _ h => absurd h (Nat.not_lt_zero _)⟩ (And.intro rfl (And.intro rfl (And.intro rfl (And.intro rfl (And.intro rfl (And.intro rfl (And.intro rfl (And.intro rfl (trivial))))))))) (permI [] rfl) (fun _ h => nomatch h) ?_
    rintro k ⟨hk, hno⟩
    try dsimp only at hk
    try dsimp only at hno
    show RJ _ _ _ _ _ [(3, .pointer (some ⟨b1, 0, none⟩)), (4, .pointer (some ⟨b2, 0, none⟩)), (5, .pointer (some ⟨b3, 0, none⟩)), (6, .pointer (some ⟨b4, 0, none⟩)), (7, .pointer (some ⟨b5, 0, none⟩)), (8, .pointer (some ⟨b6, 0, none⟩)), (10, .int .i64 q), (28, .int .i64 (k : Nat))] (_ :: _ :: _ :: _ :: _ :: _ :: _ :: _ :: _) _
    refine RJ_seq ?_
    refine RJ_reg (by kernel_rfl) ?_
    refine LJ_y rfl rfl (YJ_bin rfl rfl rfl) ?_
    refine LJ_nil ?_
    refine QJ_thenR (by repeat with_reducible first | exact no_round | exact no_begin | apply no_then | apply no_block) ?_
    refine RJ_seq ?_
    refine RJ_cond rfl (fun h29 => ?_) (fun h29 => ?_)
    ·simp only [decide_eq_true_eq] at h29
     have hk3 : k < 3 := by omega
     refine RJ_skip ?_
     refine QJ_thenR (by repeat with_reducible first | exact no_round | exact no_begin | apply no_then | apply no_block) ?_
     refine RJ_seq ?_
     refine RJ_block ?_
     refine RJ_seq ?_
     refine RJ_reg (by kernel_rfl) ?_
     refine LJ_y rfl rfl (YJ_move rfl) ?_
     refine LJ_y rfl rfl (YJ_assign rfl) ?_
     refine LJ_nil ?_
     refine QJ_thenR (by repeat with_reducible first | exact no_round | exact no_begin | apply no_then | apply no_block) ?_
     refine RJ_seq ?_
     refine RJ_reg (by kernel_rfl) ?_
     refine LJ_y rfl rfl (YJ_loadL rfl tyi_28 m7 rfl) ?_
     refine LJ_y rfl rfl (YJ_nilCheck rfl) ?_
     refine LJ_y rfl rfl (YJ_fieldOwn rfl fld_57_1 rfl) ?_
     refine LJ_y rfl rfl (YJ_loadFactP (A := some ⟨B, 0, none⟩) (j := 1) rfl rfl tyi_54 m2 rfl) ?_
     refine LJ_y rfl rfl (YJ_move rfl) ?_
     refine LJ_y rfl rfl (YJ_ixFact rfl rfl elt_54 m4 (by decide) (by omega) (by omega) (by omega)) ?_
     refine LJ_y rfl rfl (YJ_fieldAddr rfl fld_37_0) ?_
     refine LJ_y rfl rfl (YJ_loadFactNP (A := h.T) (j := q.toNat * 9) (vs := [.int .i64 t.v0, .int .i64 t.v1, .int .i64 t.v2]) rfl (Addr.add_add ..) tyi_34 m4 (trCells_v ht) rfl) ?_
     refine LJ_alloc (cs := #[_, _, _]) rfl rfl zer_34 rfl ?_
     intro b7
     refine LJ_store (cs' := #[_, _, _]) (μ' := [_, _, _, _, _, _, _, _, _]) 0 rfl rfl rfl rfl tyi_34 rfl (Nat.le_of_ble_eq_true rfl) rfl rfl rfl ?_
     refine LJ_nil ?_
     refine QJ_thenR (by repeat with_reducible first | exact no_round | exact no_begin | apply no_then | apply no_block) ?_
     refine RJ_seq ?_
     refine RJ_regD mix (by kernel_rfl) (fun _ _ _ _ _ h => h) _ _ (fun _ h => h) (fun _ h => h) (by kernel_rfl) ?_
     refine AJ_y 0 rfl (by kernel_rfl) (by kernel_rfl) rfl rfl (YJ_move rfl) ?_
     refine AJ_y 1 rfl (by kernel_rfl) (by kernel_rfl) rfl rfl (YJ_bin rfl rfl (iop_add (by omega))) ?_
     refine AJ_y 2 rfl (by kernel_rfl) (by kernel_rfl) rfl rfl (YJ_rem rfl rfl (by first | decide | omega)) ?_
     refine AJ_val (v := .int .i64 (((k + 1) % 3 : Nat) : Int)) (congrArg (Value.int .i64) (tm3 (j := 1) hk3 (by decide))) ?_
     refine AJ_y 3 rfl (by kernel_rfl) (by kernel_rfl) rfl rfl (YJ_ixArr rfl rfl arrt_34 (by omega) (by omega) rfl) ?_
     refine AJ_y 4 rfl (by kernel_rfl) (by kernel_rfl) rfl rfl (YJ_load1 rfl tyi_3 m0 (vw3_get (t := t) (Nat.mod_lt (k + 1) (by decide)))) ?_
     refine AJ_y 5 rfl (by kernel_rfl) (by kernel_rfl) rfl rfl (YJ_loadL rfl tyi_3 m7 rfl) ?_
     refine AJ_y 6 rfl (by kernel_rfl) (by kernel_rfl) rfl rfl (YJ_bin rfl rfl rfl) ?_
     refine AJ_y 7 rfl (by kernel_rfl) (by kernel_rfl) rfl rfl (YJ_move rfl) ?_
     refine AJ_boolC (fun h46 => ?_) (fun h46 => ?_)
     ·simp only [decide_eq_true_eq] at h46
      refine AJ_y 8 rfl (by kernel_rfl) (by kernel_rfl) rfl rfl (YJ_move rfl) ?_
      refine AJ_y 9 rfl (by kernel_rfl) (by kernel_rfl) rfl rfl (YJ_bin rfl rfl (iop_add (by omega))) ?_
      refine AJ_y 10 rfl (by kernel_rfl) (by kernel_rfl) rfl rfl (YJ_rem rfl rfl (by first | decide | omega)) ?_
      refine AJ_val (v := .int .i64 (((k + 2) % 3 : Nat) : Int)) (congrArg (Value.int .i64) (tm3 (j := 2) hk3 (by decide))) ?_
      refine AJ_y 11 rfl (by kernel_rfl) (by kernel_rfl) rfl rfl (YJ_ixArr rfl rfl arrt_34 (by omega) (by omega) rfl) ?_
      refine AJ_y 12 rfl (by kernel_rfl) (by kernel_rfl) rfl rfl (YJ_load1 rfl tyi_3 m0 (vw3_get (t := t) (Nat.mod_lt (k + 2) (by decide)))) ?_
      refine AJ_y 13 rfl (by kernel_rfl) (by kernel_rfl) rfl rfl (YJ_loadL rfl tyi_3 m6 rfl) ?_
      refine AJ_y 14 rfl (by kernel_rfl) (by kernel_rfl) rfl rfl (YJ_bin rfl rfl rfl) ?_
      refine AJ_y 15 rfl (by kernel_rfl) (by kernel_rfl) rfl rfl (YJ_pickT rfl rfl) ?_
      refine AJ_done (by kernel_rfl) ?_
      refine QJ_thenR (by repeat with_reducible first | exact no_round | exact no_begin | apply no_then | apply no_block) ?_
      refine RJ_cond rfl (fun h54 => ?_) (fun h54 => ?_)
      ·simp only [decide_eq_true_eq] at h54
       refine RJ_seq ?_
       refine RJ_reg (by kernel_rfl) ?_
       refine LJ_y rfl rfl (YJ_move rfl) ?_
       refine LJ_y rfl rfl (YJ_move rfl) ?_
       refine LJ_store (cs' := #[_]) (μ' := [_, _, _, _, _, _, _, _, _]) 3 rfl rfl rfl rfl tyi_3 rfl (Nat.le_of_ble_eq_true rfl) rfl rfl rfl ?_
       refine LJ_store (cs' := #[_]) (μ' := [_, _, _, _, _, _, _, _, _]) 4 rfl rfl rfl rfl tyi_3 rfl (Nat.le_of_ble_eq_true rfl) rfl rfl rfl ?_
       refine LJ_store (cs' := #[_]) (μ' := [_, _, _, _, _, _, _, _, _]) 5 rfl rfl rfl rfl tyi_4 rfl (Nat.le_of_ble_eq_true rfl) rfl rfl rfl ?_
       refine LJ_nil ?_
       refine QJ_thenR (by repeat with_reducible first | exact no_round | exact no_begin | apply no_then | apply no_block) ?_
       refine RJ_ret ?_
       refine QJ_in_ret ?_
       refine QJ_then_ret ?_
       refine QJ_then_ret ?_
       refine QJ_in_ret ?_
       refine QJ_in_ret ?_
       refine QJ_leave (μ1 := [_, _, _, _, _, _, _]) (μ2 := [_]) (φ1 := []) rfl (permI [1, 1, 1, 1, 1, 1, 1, 1] rfl) (fun _ h => nomatch h) ?_
       exact .inr ⟨rfl, .ret, (q, k), ⟨rfl, hq0, hk3, t, ht, h46, h54⟩, rfl, rfl⟩
      ·simp only [decide_eq_false_iff_not] at h54
       refine RJ_skip ?_
       refine QJ_in_normal ?_
       refine QJ_thenR (by repeat with_reducible first | exact no_round | exact no_begin | apply no_then | apply no_block) ?_
       refine RJ_reg (by kernel_rfl) ?_
       refine LJ_y rfl rfl (YJ_bin rfl rfl (iop_add (by omega))) ?_
       refine LJ_y rfl rfl (YJ_move rfl) ?_
       refine LJ_nil ?_
       refine QJ_roundF (F := fun (i : Nat) => ⟨[(3, .pointer (some ⟨b1, 0, none⟩)), (4, .pointer (some ⟨b2, 0, none⟩)), (5, .pointer (some ⟨b3, 0, none⟩)), (6, .pointer (some ⟨b4, 0, none⟩)), (7, .pointer (some ⟨b5, 0, none⟩)), (8, .pointer (some ⟨b6, 0, none⟩)), (10, .int .i64 q), (28, .int .i64 (i : Nat))], [], []⟩) (I := fun (i : Nat) => i ≤ 3 ∧ ∀ j, j < i → ¬ isE t j a b) (m := fun (i : Nat) => 3 - i) (i := k) (k + 1) (μd := [_]) ⟨by omega, fun j hj => (Nat.lt_succ_iff_lt_or_eq.1 hj).elim (hno j) (fun e => by rw [e]; exact fun w => h54 w.2)⟩ (by omega) (And.intro rfl (And.intro rfl (And.intro rfl (And.intro rfl (And.intro rfl (And.intro rfl (And.intro rfl (And.intro rfl (trivial))))))))) (permI [1, 1, 1, 1, 1, 1, 1, 1] rfl) (fun _ h => nomatch h) (fun _ h => h)
     ·simp only [decide_eq_false_iff_not] at h46
      refine AJ_skip 8 rfl (by kernel_rfl) (by kernel_rfl) rfl rfl ?_
      refine AJ_skip 9 rfl (by kernel_rfl) (by kernel_rfl) rfl rfl ?_
      refine AJ_skip 10 rfl (by kernel_rfl) (by kernel_rfl) rfl rfl ?_
      refine AJ_skip 11 rfl (by kernel_rfl) (by kernel_rfl) rfl rfl ?_
      refine AJ_skip 12 rfl (by kernel_rfl) (by kernel_rfl) rfl rfl ?_
      refine AJ_skip 13 rfl (by kernel_rfl) (by kernel_rfl) rfl rfl ?_
      refine AJ_skip 14 rfl (by kernel_rfl) (by kernel_rfl) rfl rfl ?_
      refine AJ_y 15 rfl (by kernel_rfl) (by kernel_rfl) rfl rfl (YJ_pickF rfl rfl) ?_
      refine AJ_done (by kernel_rfl) ?_
      refine QJ_thenR (by repeat with_reducible first | exact no_round | exact no_begin | apply no_then | apply no_block) ?_
      refine RJ_condF rfl ?_
      refine RJ_skip ?_
      refine QJ_in_normal ?_
      refine QJ_thenR (by repeat with_reducible first | exact no_round | exact no_begin | apply no_then | apply no_block) ?_
      refine RJ_reg (by kernel_rfl) ?_
      refine LJ_y rfl rfl (YJ_bin rfl rfl (iop_add (by omega))) ?_
      refine LJ_y rfl rfl (YJ_move rfl) ?_
      refine LJ_nil ?_
      refine QJ_roundF (F := fun (i : Nat) => ⟨[(3, .pointer (some ⟨b1, 0, none⟩)), (4, .pointer (some ⟨b2, 0, none⟩)), (5, .pointer (some ⟨b3, 0, none⟩)), (6, .pointer (some ⟨b4, 0, none⟩)), (7, .pointer (some ⟨b5, 0, none⟩)), (8, .pointer (some ⟨b6, 0, none⟩)), (10, .int .i64 q), (28, .int .i64 (i : Nat))], [], []⟩) (I := fun (i : Nat) => i ≤ 3 ∧ ∀ j, j < i → ¬ isE t j a b) (m := fun (i : Nat) => 3 - i) (i := k) (k + 1) (μd := [_]) ⟨by omega, fun j hj => (Nat.lt_succ_iff_lt_or_eq.1 hj).elim (hno j) (fun e => by rw [e]; exact fun w => h46 w.1)⟩ (by omega) (And.intro rfl (And.intro rfl (And.intro rfl (And.intro rfl (And.intro rfl (And.intro rfl (And.intro rfl (And.intro rfl (trivial))))))))) (permI [1, 1, 1, 1, 1, 1, 1, 1] rfl) (fun _ h => nomatch h) (fun _ h => h)
    ·simp only [decide_eq_false_iff_not] at h29
     have hk3 : 3 = k := by omega
     subst hk3
     refine RJ_exit ?_
     refine QJ_then_exit ?_
     refine QJ_then_exit ?_
     refine QJ_in_exit ?_
     refine QJ_in_normal ?_
     refine QJ_again (μ1 := [_, _, _, _, _, _, _]) (μ2 := []) (φ1 := []) (permI [] rfl) (fun _ h => nomatch h) ?_
     exact .inl ⟨rfl, (), (fun x hx u hu m hm => by
      rcases List.mem_append.1 hx with hx | hx
      ·exact hI x hx u hu m hm
      ·rw [List.mem_singleton] at hx
       subst hx
       rw [ht] at hu
       cases hu
       exact hno m hm), rfl, rfl⟩
   ·intro D0 iR hI
    have hno : ∀ x, x ∈ arL tris (max a b) fr N → ∀ t, tris[x.1.toNat]? = some t → ∀ k, k < 3 → ¬ isE t k a b := hI
    show QJ _ _ _ _ (defR D0 :: _ :: _ :: _ :: _ :: _ :: _ :: _) _
    refine QJ_in_normal ?_
    refine QJ_then ?_
    refine CJ_seq ?_
    refine CJ_reg ?_
    refine LJ_store (cs' := #[_]) (μ' := [_, _, _, _, _, _, _]) 1 rfl rfl rfl rfl tyi_3 rfl (Nat.le_of_ble_eq_true rfl) rfl rfl rfl ?_
    refine LJ_store (cs' := #[_]) (μ' := [_, _, _, _, _, _, _]) 2 rfl rfl rfl rfl tyi_3 rfl (Nat.le_of_ble_eq_true rfl) rfl rfl rfl ?_
    refine LJ_store (cs' := #[_]) (μ' := [_, _, _, _, _, _, _]) 3 rfl rfl rfl rfl tyi_4 rfl (Nat.le_of_ble_eq_true rfl) rfl rfl rfl ?_
    refine LJ_nil ?_
    refine QJ_then ?_
    refine CJ_ret ?_
    refine QJ_finM (.inl rfl) [D0] rfl (μ' := []) (μr := [_, _, _, _, _, _]) (φ' := []) (res_cell3 rfl rfl rfl rfl m0 m1 m2 tyi_3 tyi_3 tyi_4) (permI [] rfl) (fun _ h => nomatch h) ?_
    exact ⟨(-1, 0, false), .inl ⟨rfl, .inr (.inr ⟨fr, N, hA, hno⟩)⟩, rfl, rfl, rfl⟩
   ·intro D0 cR pre iR hpre hI
    obtain ⟨rfl, hq0, hk3, t, ht, hE⟩ := hI
    obtain ⟨q, k⟩ := iR
    show CJ _ _ _ _ (defR D0 :: _ :: _ :: _ :: _ :: _ :: _ :: _) _
    refine CJ_ret ?_
    refine QJ_in_ret ?_
    refine QJ_then_ret ?_
    refine QJ_finM (.inl rfl) [D0] rfl (μ' := []) (μr := [_, _, _, _, _, _]) (φ' := []) (res_cell3 rfl rfl rfl rfl m0 m1 m2 tyi_3 tyi_3 tyi_4) (permI [] rfl) (fun _ h => nomatch h) ?_
    exact ⟨(q, (k : Int), true), .inr ⟨q, t, k, hq0, ht, hk3, hE, rfl⟩, rfl, rfl, rfl⟩
end Go.Proofs.Ytbanlhlggkdanaa
namespace Go.Proofs.Ytbanlhlggkdanaa
open Go.RowKit
section
variable {F : MapI} {W H : Nat} {f : Nat → Bool} {M : MD} {V : List (Nat × T3)}
theorem GM.arh (h : GM F W H f M V) {p : Nat} (hp : p < M.pts.length) : ∃ fr N, ArH M.tris M.ats p fr N := by
 rw [h.pts] at hp
 obtain ⟨y, hy, hya, hyh⟩ := h.at_ p hp
 obtain ⟨k, hk, hkv⟩ := has3_tv.1 hyh
 obtain ⟨N, n1, n2, n3, n4, n5⟩ := h.lm.orb_end h.tg hy hk
 obtain ⟨_, _, _, _, _, _, _, _, ho, _⟩ := h.lm.orbit h.tg hy hk
 rw [hkv] at n2 n4 n5 ho
 refine ⟨(y.1 : Int), N, Int.natCast_nonneg p, by simpa using hya, n1, n3, fun j => ?_, n4, n5⟩
 obtain ⟨z, hz, hzi, m, hm, hzm, _⟩ := ho j
 obtain ⟨t, ht, _⟩ := h.lm.get hz
 refine ⟨by rw [hzi]; exact Int.natCast_nonneg _, t, m, by rw [hzi, Int.toNat_natCast]; exact ht, ?_, hm⟩
 have := h.lm.plc h.tg hz ht hm
 rw [hzm] at this
 exact this
theorem GM.cover (h : GM F W H f M V) {v fr : Int} {N : Nat} (hA : ArH M.tris M.ats v fr N) {x : Nat × T3} (hx : x ∈ V) {k : Nat} (hk : k < 3) (he : tv x.2 k = v) : ((x.1 : Int), k) ∈ arL M.tris v fr N := by
 have hv0 := hA.v0
 have hvl := (List.getElem?_eq_some_iff.1 hA.at_).1
 rw [h.ats] at hvl
 obtain ⟨y, hy, hya, hyh⟩ := h.at_ v.toNat hvl
 rw [hA.at_] at hya
 obtain rfl := Option.some.inj hya
 rw [Int.toNat_of_nonneg hv0] at hyh
 obtain ⟨m, hm, hmv⟩ := has3_tv.1 hyh
 obtain ⟨ws, hn, h0, hcA, hl, i0, hil, hi0, ho, hall⟩ := h.lm.orbit h.tg hy hm
 obtain ⟨N', n1, n2, n3, n4, n5⟩ := h.lm.orb_end h.tg hy hm
 rw [hmv] at ho hall hcA n2 n4 n5
 have hNN : N = N' := by
  rcases Nat.lt_trichotomy N N' with q | q | q
  ·exact absurd hA.en (n5 N hA.n1 q)
  ·exact q
  ·exact absurd n4 (hA.no N' n1 q)
 have hwN : ws.length = N := by omega
 obtain ⟨i, hi, hiw⟩ := hall x hx k hk he
 have hj : ∃ j, j < N ∧ (i0 + j) % ws.length = i := by
  rcases Nat.lt_or_ge i i0 with q | q
  ·refine ⟨i + ws.length - i0, by omega, ?_⟩
   rw [show i0 + (i + ws.length - i0) = i + ws.length by omega, Nat.add_mod_right, Nat.mod_eq_of_lt hi]
  ·refine ⟨i - i0, by omega, ?_⟩
   rw [show i0 + (i - i0) = i by omega, Nat.mod_eq_of_lt hi]
 obtain ⟨j, hjN, hji⟩ := hj
 obtain ⟨z, hz, hzi, m', hm', hzm, hzw⟩ := ho j
 rw [hji, hiw] at hzw
 obtain ⟨rfl, rfl⟩ := h.lm.same hx hz hk hm' (he.trans hzm.symm) (Option.some.inj hzw)
 refine List.mem_map.2 ⟨j, List.mem_range.2 hjN, ?_⟩
 unfold arAt pla
 obtain ⟨t, ht, _⟩ := h.lm.get hx
 rw [hzi, Int.toNat_natCast, ht]
 dsimp only
 have := h.lm.plc h.tg hx ht hk
 rw [he] at this
 rw [this]
 rfl
def WnI (tris : List Tr) (a b : Int) (n k : Nat) (s : Int × Int) : Prop :=
 (s = (-1, 0) ∧ ∀ (q : Nat) (t : Tr) (m : Nat), tris[q]? = some t → m < 3 → (q < n ∨ q = n ∧ m < k) → ¬ isE t m a b) ∨
 ∃ (q : Nat) (t : Tr) (m : Nat), tris[q]? = some t ∧ m < 3 ∧ isE t m a b ∧ s = ((q : Int), (m : Int))
theorem WnI.hit {tris : List Tr} {a b : Int} {n k : Nat} {t : Tr} (ht : tris[n]? = some t) (hk : k < 3) (he : isE t k a b) : WnI tris a b n (k + 1) ((n : Int), (k : Int)) := .inr ⟨n, t, k, ht, hk, he, rfl⟩
theorem WnI.next {tris : List Tr} {a b : Int} {n : Nat} {s : Int × Int} (h : WnI tris a b n 3 s) : WnI tris a b (n + 1) 0 s := by
 rcases h with ⟨h1, h2⟩ | h
 ·refine .inl ⟨h1, fun q u m hu hm hq => h2 q u m hu hm ?_⟩
  rcases hq with hq | ⟨_, hq⟩
  ·rcases Nat.lt_succ_iff_lt_or_eq.1 hq with p | p
   ·exact .inl p
   ·exact .inr ⟨p, hm⟩
  ·omega
 ·exact .inr h
theorem GM.find (h : GM F W H f M V) {a b : Int} (ha : -1 ≤ a) (hb : -1 ≤ b) {s : Int × Int} {r : Int × Int × Bool} (hw : WnI M.tris a b M.tris.length 0 s) (hf : FndOk M.tris M.ats a b r) : r = (s.1, s.2, decide (0 ≤ s.1)) := by
 have live : ∀ {q : Nat} {t : Tr} {m : Nat}, M.tris[q]? = some t → m < 3 → isE t m a b → (q, (t.v0, t.v1, t.v2)) ∈ V := by
  intro q t m ht hm he
  refine h.lm.of ht (fun h0 => ?_)
  obtain ⟨g1, g2⟩ := h.lm.gone h.tg t (List.mem_of_getElem? ht) h0
  have : t.v ((m + 1) % 3) = -2 := by
   have hm1 := Nat.mod_lt (m + 1) (by decide : 0 < 3)
   generalize (m + 1) % 3 = j at *
   match j, hm1 with
   | 0, _ => exact h0
   | 1, _ => exact g1
   | 2, _ => exact g2
  have := he.1
  omega
 have edge : ∀ {q : Nat} {t : Tr} {m : Nat}, M.tris[q]? = some t → m < 3 → isE t m a b → kv (t.v0, t.v1, t.v2) m = (a, b) := fun _ _ he => Prod.ext he.1 he.2
 have one : ∀ {q : Nat} {t : Tr} {m : Nat}, M.tris[q]? = some t → m < 3 → isE t m a b → ∀ {q' : Nat} {t' : Tr} {m' : Nat}, M.tris[q']? = some t' → m' < 3 → isE t' m' a b → q = q' ∧ m = m' := by
  intro q t m ht hm he q' t' m' ht' hm' he'
  obtain ⟨e1, e2⟩ := h.lm.un _ (live ht hm he) m hm _ (live ht' hm' he') m' hm' ((edge ht hm he).trans (edge ht' hm' he').symm)
  exact ⟨congrArg Prod.fst e1, e2⟩
 rcases hf with ⟨rfl, hno⟩ | ⟨q, t, k, hq0, ht, hk, he, rfl⟩
 ·rcases hw with ⟨rfl, _⟩ | ⟨q, t, m, ht, hm, he, rfl⟩
  ·rfl
  ·exfalso
   have hx := live ht hm he
   have hd := h.tg.ds _ (List.mem_map.2 ⟨_, hx, rfl⟩)
   have i1 := Nat.mod_lt (m + 1) (by decide : 0 < 3)
   have i2 := Nat.mod_lt (m + 2) (by decide : 0 < 3)
   have hne : (m + 1) % 3 ≠ (m + 2) % 3 := by omega
   have ea : tv (t.v0, t.v1, t.v2) ((m + 1) % 3) = a := he.1
   have eb : tv (t.v0, t.v1, t.v2) ((m + 2) % 3) = b := he.2
   have hab : a ≠ b := fun p => hne (tv_inj hd i1 i2 (ea.trans (p.trans eb.symm)))
   rcases hno with p | p | ⟨fr, N, hA, hall⟩
   ·omega
   ·exact hab p
   ·have : ∃ j, j < 3 ∧ tv (t.v0, t.v1, t.v2) j = max a b := by
     rcases (show max a b = a ∨ max a b = b by omega) with p | p
     ·exact ⟨_, i1, ea.trans p.symm⟩
     ·exact ⟨_, i2, eb.trans p.symm⟩
    obtain ⟨j, hj, hje⟩ := this
    have := h.cover hA hx hj hje
    exact hall _ this t (by simpa using ht) m hm he
 ·have ht' : M.tris[q.toNat]? = some t := ht
  rcases hw with ⟨rfl, hno⟩ | ⟨q', t', m, ht2, hm, he2, rfl⟩
  ·exact absurd he (hno q.toNat t k ht' hk (.inl (List.getElem?_eq_some_iff.1 ht').1))
  ·obtain ⟨e1, e2⟩ := one ht' hk he ht2 hm he2
   subst e2
   rw [← e1]
   dsimp only
   rw [Int.toNat_of_nonneg hq0, decide_eq_true hq0]
end
end Go.Proofs.Ytbanlhlggkdanaa
namespace Go.Proofs.Ytbanlhlggkdanaa
open Go.RowKit
section
variable {F : MapI} {W H : Nat} {f : Nat → Bool} {M : MD} {V : List (Nat × T3)}
end
end Go.Proofs.Ytbanlhlggkdanaa
namespace Go.Proofs.Ytbanlhlggkdanaa
open Go.RowKit
section
variable {F : MapI} {W H : Nat} {f : Nat → Bool} {M : MD} {V : List (Nat × T3)}
end
end Go.Proofs.Ytbanlhlggkdanaa
namespace Go.Proofs.Ytbanlhlggkdanaa
open Go.RowKit
theorem realsF_lv : ∀ (l : List Tr) (k : Nat), (realsF k l).map (fun x => ((x.1, (x.2.v0, x.2.v1, x.2.v2)) : Nat × T3)) = (lvF k l).filter (fun x => decide (rv x.2))
 | [], _ => rfl
 | t :: l, k => by
  have ih := realsF_lv l (k + 1)
  rw [lvF_cons]
  unfold realsF
  by_cases hr : t.real
  ·have h0 : t.v0 ≠ -2 := by have := hr.1; omega
   rw [if_pos hr, if_neg h0, List.map_cons, List.filter_cons, if_pos (by simpa using (show rv (t.v0, t.v1, t.v2) from hr)), ih]
  ·rw [if_neg hr, ih]
   split
   ·rfl
   ·rw [List.filter_cons, if_neg (by simpa using (show ¬ rv (t.v0, t.v1, t.v2) from hr))]
def hStep (s : MI × Nat × Int) (e : Int × Int) : MI × Nat × Int := (mput e.1 e.2 s.1 s.2.1, mclk e.1 s.1 s.2.1, min s.2.2 e.1)
def hEt (tris : List Tr) (t : Tr) : List (Int × Int) := ([0, 1, 2].filter fun k => !decide (isReal tris (t.n k))).map (edT t)
theorem hullT_edges (tris : List Tr) (s : MI × Nat × Int) (x : Nat × Tr) : hullT tris s x = (hEt tris x.2).foldl hStep s := by
 unfold hullT hEt
 rw [List.foldl_map, List.foldl_filter]
 congr 1
 funext a k
 unfold hullE hStep edT
 by_cases h : isReal tris (x.2.n k)
 ·rw [if_pos h, if_neg (by simpa using h)]
 ·rw [if_neg h, if_pos (by simpa using h)]
theorem foldl_flat {α β γ : Type} (g : γ → β → γ) (f : α → List β) : ∀ (l : List α) (s : γ), l.foldl (fun s x => (f x).foldl g s) s = (l.flatMap f).foldl g s
 | [], _ => rfl
 | x :: l, s => by rw [List.foldl_cons, List.flatMap_cons, List.foldl_append, foldl_flat g f l]
theorem hullM_edges (tris : List Tr) (n0 : Int) : hullM tris n0 = ((reals tris).flatMap (fun x => hEt tris x.2)).foldl hStep ([], 0, n0) := by
 unfold hullM
 rw [← foldl_flat]
 congr 1
 funext s x
 exact hullT_edges tris s x
theorem mput_new {k v : Int} {l : MI} {c : Nat} (h : ¬ k ∈ l.map (·.1)) : mput k v l c = l ++ [(k, v, c)] := by
 have := mget_none h
 unfold mget at this
 unfold mput
 cases hf : mfind k l 0 with
 | none => rfl
 | some p => rw [hf] at this; cases this
theorem hFold : ∀ (E : List (Int × Int)) (s : MI × Nat × Int), (∀ e, e ∈ E → ¬ e.1 ∈ s.1.map (·.1)) → (E.map (·.1)).Nodup → (E.foldl hStep s).1.map (fun e => (e.1, e.2.1)) = s.1.map (fun e => (e.1, e.2.1)) ++ E ∧ (E.foldl hStep s).2.2 = (E.map (·.1)).foldl min s.2.2
 | [], s, _, _ => ⟨by simp, rfl⟩
 | e :: E, s, h, hn => by
  rw [List.map_cons, List.nodup_cons] at hn
  have hp : (hStep s e).1 = s.1 ++ [(e.1, e.2, s.2.1)] := mput_new (h e (.head _))
  obtain ⟨h1, h2⟩ := hFold E (hStep s e) (fun e' he' q => by
   rw [hp, List.map_append] at q
   rcases List.mem_append.1 q with q | q
   ·exact h e' (.tail _ he') q
   ·simp at q
    exact hn.1 (List.mem_map.2 ⟨e', he', q⟩)) hn.2
  rw [List.foldl_cons]
  refine ⟨?_, h2⟩
  rw [h1, hp, List.map_append, List.append_assoc]
  rfl
def nxE (E : List (Int × Int)) (a : Int) : Int := ((E.find? (fun e => decide (e.1 = a))).map (·.2)).getD 0
def itE (E : List (Int × Int)) : Nat → Int → Int
 | 0, v => v
 | k + 1, v => nxE E (itE E k v)
def minE (E : List (Int × Int)) (n0 : Int) : Int := (E.map (·.1)).foldl min n0
def hullV (E : List (Int × Int)) (n0 : Int) : List Int := (List.range E.length).map fun i => itE E i (minE E n0)
theorem mget_nx : ∀ (L : MI) (a : Int), (mget a L).getD 0 = nxE (L.map fun e => (e.1, e.2.1)) a
 | [], _ => rfl
 | e :: L, a => by
  have ih := mget_nx L a
  rw [mget_cons, List.map_cons]
  unfold nxE
  rw [List.find?_cons]
  by_cases h : e.1 = a
  ·rw [if_pos h.symm, decide_eq_true h]; rfl
  ·rw [if_neg (fun q => h q.symm), decide_eq_false h]; exact ih
theorem itN_it (L : MI) (f : Int) : ∀ k, itN L k f = itE (L.map fun e => (e.1, e.2.1)) k f
 | 0 => rfl
 | k + 1 => by
  show (mget (itN L k f) L).getD 0 = nxE _ (itE _ k f)
  rw [mget_nx, itN_it L f k]
theorem hullOf_E {tris : List Tr} {n0 : Int} {E : List (Int × Int)} (hE : (reals tris).flatMap (fun x => hEt tris x.2) = E) (hn : (E.map (·.1)).Nodup) : hullOf tris n0 = hullV E n0 := by
 obtain ⟨h1, h2⟩ := hFold E ([], 0, n0) (fun e _ q => nomatch q) hn
 rw [List.map_nil, List.nil_append] at h1
 unfold hullOf hullW hullV
 rw [hullM_edges, hE]
 have hl : (E.foldl hStep ([], 0, n0)).1.length = E.length := by rw [← List.length_map (f := fun e => (e.1, e.2.1)), h1]
 rw [hl]
 congr 1
 funext i
 rw [itN_it, h1, h2]
 rfl
theorem nxE_mem {E : List (Int × Int)} (hn : (E.map (·.1)).Nodup) {a b : Int} (h : (a, b) ∈ E) : nxE E a = b := by
 induction E with
 | nil => cases h
 | cons e E ih =>
  rw [List.map_cons, List.nodup_cons] at hn
  unfold nxE
  rw [List.find?_cons]
  rcases List.mem_cons.1 h with q | q
  ·subst q; simp
  ·have hne : e.1 ≠ a := fun p => hn.1 (by rw [p]; exact List.mem_map.2 ⟨_, q, rfl⟩)
   rw [decide_eq_false hne]
   exact ih hn.2 q
theorem nxE_no {E : List (Int × Int)} {a : Int} (h : ∀ b, ¬ (a, b) ∈ E) : nxE E a = 0 := by
 unfold nxE
 rw [show E.find? (fun e => decide (e.1 = a)) = none from by
  rw [List.find?_eq_none]
  intro e he q
  obtain ⟨e1, e2⟩ := e
  have q1 : e1 = a := by simpa using q
  subst q1
  exact h e2 he]
 rfl
theorem nxE_perm {E E' : List (Int × Int)} (hp : E.Perm E') (hn : (E'.map (·.1)).Nodup) (a : Int) : nxE E a = nxE E' a := by
 have hn' : (E.map (·.1)).Nodup := (hp.map _).nodup_iff.2 hn
 by_cases h : ∃ b, (a, b) ∈ E
 ·obtain ⟨b, hb⟩ := h
  rw [nxE_mem hn' hb, nxE_mem hn (hp.mem_iff.1 hb)]
 ·rw [nxE_no (fun b q => h ⟨b, q⟩), nxE_no (fun b q => h ⟨b, hp.mem_iff.2 q⟩)]
theorem foldl_min : ∀ (l : List Int) (m : Int), l.foldl min m ≤ m ∧ (∀ x, x ∈ l → l.foldl min m ≤ x) ∧ (l.foldl min m = m ∨ l.foldl min m ∈ l)
 | [], m => ⟨Int.le_refl _, fun _ h => (nomatch h), .inl rfl⟩
 | x :: l, m => by
  obtain ⟨h1, h2, h3⟩ := foldl_min l (min m x)
  rw [List.foldl_cons]
  refine ⟨by omega, fun y hy => ?_, ?_⟩
  ·rcases List.mem_cons.1 hy with rfl | hy
   ·omega
   ·exact h2 y hy
  ·rcases h3 with h3 | h3
   ·rcases (show min m x = m ∨ min m x = x by omega) with q | q
    ·rw [q] at h3; rw [q]; exact .inl h3
    ·rw [q] at h3; rw [q]; exact .inr (by rw [h3]; exact .head _)
   ·exact .inr (.tail _ h3)
theorem minE_perm {E E' : List (Int × Int)} (hp : E.Perm E') (n0 : Int) : minE E n0 = minE E' n0 := by
 unfold minE
 have hp' := hp.map (·.1)
 obtain ⟨a1, a2, a3⟩ := foldl_min (E.map (·.1)) n0
 obtain ⟨b1, b2, b3⟩ := foldl_min (E'.map (·.1)) n0
 have h1 : (E.map (·.1)).foldl min n0 ≤ (E'.map (·.1)).foldl min n0 := by
  rcases b3 with q | q
  ·omega
  ·exact a2 _ (hp'.mem_iff.2 q)
 have h2 : (E'.map (·.1)).foldl min n0 ≤ (E.map (·.1)).foldl min n0 := by
  rcases a3 with q | q
  ·omega
  ·exact b2 _ (hp'.mem_iff.1 q)
 omega
theorem hullV_perm {E E' : List (Int × Int)} (hp : E.Perm E') (hn : (E'.map (·.1)).Nodup) (n0 : Int) : hullV E n0 = hullV E' n0 := by
 have hi : ∀ k v, itE E k v = itE E' k v := by
  intro k v
  induction k with
  | zero => rfl
  | succ k ih =>
   show nxE E (itE E k v) = nxE E' (itE E' k v)
   rw [ih, nxE_perm hp hn]
 unfold hullV
 rw [hp.length_eq, minE_perm hp]
 congr 1
 funext i
 exact hi _ _
theorem sub_flat {α β : Type} (f : α → List β) {l l' : List α} (h : l.Sublist l') : (l.flatMap f).Sublist (l'.flatMap f) := by
 induction h with
 | slnil => exact List.Sublist.refl _
 | cons x _ ih => rw [List.flatMap_cons]; exact ih.trans (List.sublist_append_right _ _)
 | cons_cons x _ ih => rw [List.flatMap_cons, List.flatMap_cons]; exact List.Sublist.append (List.Sublist.refl _) ih
section
variable {F : MapI} {tris : List Tr} {V : List (Nat × T3)} {n : Nat} {pts : List (Int × Int)} {ats : List Int}
theorem LM.real_at (h : LM F tris V) {y : Nat × T3} (hy : y ∈ V) : isReal tris (y.1 : Int) ↔ rv y.2 := by
 obtain ⟨t, ht, hv⟩ := h.get hy
 rw [← hv]
 constructor
 ·rintro ⟨_, u, hu, hr⟩
  rw [Int.toNat_natCast, ht] at hu
  cases hu
  exact hr
 ·intro hr
  exact ⟨Int.natCast_nonneg _, t, by rw [Int.toNat_natCast]; exact ht, hr⟩
theorem LM.mem_real (h : LM F tris V) {q : Nat} {t : Tr} : (q, t) ∈ reals tris ↔ tris[q]? = some t ∧ (q, (t.v0, t.v1, t.v2)) ∈ V ∧ rv (t.v0, t.v1, t.v2) := by
 rw [reals_mem]
 constructor
 ·rintro ⟨h1, h2⟩
  exact ⟨h1, h.of h1 (by have := h2.1; omega), h2⟩
 ·rintro ⟨h1, _, h3⟩
  exact ⟨h1, h3⟩
theorem LM.hE (h : LM F tris V) (hT : TG n (V.map (·.2))) : ((reals tris).flatMap (fun x => hEt tris x.2)).Perm (openE ((V.map (·.2)).filter (fun v => decide (rv v)))) := by
 have hsub : ∀ {v k}, v ∈ (V.map (·.2)).filter (fun v => decide (rv v)) → k < 3 → kv v k ∈ ((V.map (·.2)).filter (fun v => decide (rv v))).flatMap eds := by
  intro v k hv hk
  refine List.mem_flatMap.2 ⟨v, hv, ?_⟩
  match k, hk with
  | 0, _ => exact .head _
  | 1, _ => exact .tail _ (.head _)
  | 2, _ => exact .tail _ (.tail _ (.head _))
 have hn2 : (((V.map (·.2)).filter (fun v => decide (rv v))).flatMap eds).Nodup := hT.nd.sublist (sub_flat _ List.filter_sublist)
 have hn1 : ((reals tris).flatMap (fun x => hEt tris x.2)).Nodup := by
  have e1 : ((reals tris).map (fun x => ((x.1, (x.2.v0, x.2.v1, x.2.v2)) : Nat × T3))).Perm (V.filter (fun x => decide (rv x.2))) := by
   rw [show reals tris = realsF 0 tris from rfl, realsF_lv]
   exact (h.perm hT).filter _
  have e2 : ((reals tris).flatMap (fun x => eds (x.2.v0, x.2.v1, x.2.v2))).Nodup := by
   have e3 : (reals tris).flatMap (fun x => eds (x.2.v0, x.2.v1, x.2.v2)) = ((reals tris).map (fun x => ((x.1, (x.2.v0, x.2.v1, x.2.v2)) : Nat × T3))).flatMap (fun x => eds x.2) := by rw [List.flatMap_map]
   rw [e3, (e1.flatMap_right (fun x => eds x.2)).nodup_iff]
   refine List.Nodup.sublist (sub_flat _ List.filter_sublist) ?_
   rw [flatMap_snd]
   exact hT.nd
  have key : ∀ l : List (Nat × Tr), (l.flatMap (fun x => hEt tris x.2)).Sublist (l.flatMap (fun x => eds (x.2.v0, x.2.v1, x.2.v2))) := by
   intro l
   induction l with
   | nil => exact List.Sublist.refl _
   | cons x l ih =>
    rw [List.flatMap_cons, List.flatMap_cons]
    refine List.Sublist.append ?_ ih
    exact (List.filter_sublist (l := [0, 1, 2])).map (edT x.2)
  exact e2.sublist (key _)
 rw [List.perm_ext_iff_of_nodup hn1 (hn2.sublist (by unfold openE; exact List.filter_sublist))]
 intro e
 rw [mem_openE]
 constructor
 ·intro he
  obtain ⟨⟨q, t⟩, hx, hk⟩ := List.mem_flatMap.1 he
  obtain ⟨ht, hV, hr⟩ := h.mem_real.1 hx
  unfold hEt at hk
  obtain ⟨k, hk2, rfl⟩ := List.mem_map.1 hk
  rw [List.mem_filter] at hk2
  obtain ⟨hk3, hnr⟩ := hk2
  have hk3 := lt3 hk3
  have hR : (t.v0, t.v1, t.v2) ∈ (V.map (·.2)).filter (fun v => decide (rv v)) := List.mem_filter.2 ⟨List.mem_map.2 ⟨_, hV, rfl⟩, by simpa using hr⟩
  refine ⟨hsub hR hk3, fun p => ?_⟩
  obtain ⟨y, hy, j, hj, he2, hn, _⟩ := h.across hT hV ht hk3
  obtain ⟨w, hw, hwe⟩ := List.mem_flatMap.1 p
  rw [List.mem_filter] at hw
  obtain ⟨hw1, hw2⟩ := hw
  obtain ⟨z, hz, rfl⟩ := List.mem_map.1 hw1
  have : ∃ m, m < 3 ∧ kv z.2 m = rev2 (edT t k) := by
   simp only [eds, List.mem_cons, List.not_mem_nil, or_false] at hwe
   rcases hwe with q | q | q
   ·exact ⟨0, by decide, q.symm⟩
   ·exact ⟨1, by decide, q.symm⟩
   ·exact ⟨2, by decide, q.symm⟩
  obtain ⟨m, hm, hzm⟩ := this
  have hyz := (h.un y hy j hj z hz m hm (he2.trans hzm.symm)).1
  have hnr' : ¬ isReal tris (t.n k) := by simpa using hnr
  rw [hn] at hnr'
  exact hnr' ((h.real_at hy).2 (by rw [hyz]; simpa using hw2))
 ·rintro ⟨h1, h2⟩
  obtain ⟨w, hw, hwe⟩ := List.mem_flatMap.1 h1
  rw [List.mem_filter] at hw
  obtain ⟨hw1, hw2⟩ := hw
  obtain ⟨x, hx, rfl⟩ := List.mem_map.1 hw1
  have hwr : rv x.2 := by simpa using hw2
  obtain ⟨t, ht, htv⟩ := h.get hx
  have : ∃ k, k < 3 ∧ e = edT t k := by
   rw [← htv] at hwe
   simp only [eds, List.mem_cons, List.not_mem_nil, or_false] at hwe
   rcases hwe with q | q | q
   ·exact ⟨0, by decide, q⟩
   ·exact ⟨1, by decide, q⟩
   ·exact ⟨2, by decide, q⟩
  obtain ⟨k, hk, rfl⟩ := this
  refine List.mem_flatMap.2 ⟨(x.1, t), h.mem_real.2 ⟨ht, by rw [htv]; exact hx, by rw [htv]; exact hwr⟩, ?_⟩
  unfold hEt
  refine List.mem_map.2 ⟨k, List.mem_filter.2 ⟨in3' hk, ?_⟩, rfl⟩
  obtain ⟨y, hy, j, hj, he2, hn, _⟩ := h.across hT hx ht hk
  rw [Bool.not_eq_true', decide_eq_false_iff_not, hn]
  intro hr
  apply h2
  have hyr := (h.real_at hy).1 hr
  have hm := hsub (List.mem_filter.2 ⟨List.mem_map.2 ⟨y, hy, rfl⟩, by simpa using hyr⟩) hj
  rw [he2] at hm
  rw [← htv] at hm
  exact hm
theorem LM.sumA (h : LM F tris V) (hT : TG n (V.map (·.2))) : sumA pts (reals tris) = (((V.map (·.2)).filter (fun v => decide (rv v))).map fun v => A2p pts v.1 v.2.1 v.2.2).sum := by
 have e1 : ((reals tris).map (fun x => ((x.1, (x.2.v0, x.2.v1, x.2.v2)) : Nat × T3))).Perm (V.filter (fun x => decide (rv x.2))) := by
  rw [show reals tris = realsF 0 tris from rfl, realsF_lv]
  exact (h.perm hT).filter _
 have e2 := sum_perm (fun x : Nat × T3 => A2p pts x.2.1 x.2.2.1 x.2.2.2) e1
 rw [List.map_map] at e2
 unfold Go.Proofs.Ytbanlhlggkdanaa.sumA
 rw [show ((V.map (·.2)).filter (fun v => decide (rv v))) = (V.filter (fun x => decide (rv x.2))).map (·.2) from by rw [List.filter_map]; rfl, List.map_map]
 exact e2
end
def hB (W H : Nat) (f : Nat → Bool) : Bool :=
 let E := openE (gTris W H f)
 let l := hullV E (gPts W H).length
 decide ((gAll W H f).filter (fun v => decide (rv v)) = gTris W H f) && (decide ((E.map (·.1)).Nodup) && (l.all (fun v => decide (0 ≤ v ∧ v < (gPts W H).length)) && ((List.range l.length).all (fun i => l.all fun c => decide (0 ≤ A2p (gPts W H) (l.getD i 0) (l.getD ((i + 1) % l.length) 0) c)) &&
 decide (((gTris W H f).map fun v => A2p (gPts W H) v.1 v.2.1 v.2.2).sum = outA (gPts W H) l l.length))))
theorem hB_all : ∀ b0 b1 b2 b3 : Bool, hB 1 1 (bit4 b0 b1 b2 b3) = true ∧ hB 1 2 (bit4 b0 b1 b2 b3) = true ∧ hB 2 1 (bit4 b0 b1 b2 b3) = true ∧ hB 2 2 (bit4 b0 b1 b2 b3) = true := by decide +kernel
theorem hB_true {W H : Nat} {f : Nat → Bool} (hW : W = 1 ∨ W = 2) (hH : H = 1 ∨ H = 2) : hB W H f = true := by
 have := hB_all (f 0) (f 1) (f 2) (f 3)
 unfold hB gAll at this ⊢
 rw [gTris_nf hW hH]
 rcases hW with rfl | rfl <;> rcases hH with rfl | rfl
 ·exact this.1
 ·exact this.2.1
 ·exact this.2.2.1
 ·exact this.2.2.2
theorem GM.hull {F : MapI} {W H : Nat} {f : Nat → Bool} {M : MD} {V : List (Nat × T3)} (h : GM F W H f M V) (hW : W = 1 ∨ W = 2) (hH : H = 1 ∨ H = 2) : hullOf M.tris (M.pts.length : Nat) = hullV (openE (gTris W H f)) (gPts W H).length := by
 have hb := hB_true (f := f) hW hH
 unfold hB at hb
 simp only [Bool.and_eq_true, decide_eq_true_eq] at hb
 obtain ⟨b1, b2, _⟩ := hb
 have hp := h.lm.hE h.tg
 have hq : (openE ((V.map (·.2)).filter (fun v => decide (rv v)))).Perm (openE (gTris W H f)) := by
  have := (h.pm.filter (fun v => decide (rv v)))
  rw [b1] at this
  rw [List.perm_ext_iff_of_nodup]
  ·intro e
   rw [mem_openE, mem_openE]
   have hm := (this.flatMap_right eds).mem_iff (a := e)
   have hm2 := (this.flatMap_right eds).mem_iff (a := rev2 e)
   rw [hm, hm2]
  ·exact (h.tg.nd.sublist (sub_flat _ List.filter_sublist)).sublist (by unfold openE; exact List.filter_sublist)
  ·have := nodup_of_map b2
   exact this
 have hpq := hp.trans hq
 rw [hullOf_E rfl ((hpq.map _).nodup_iff.2 b2), hullV_perm hpq b2, h.pts]
theorem GM.ar {F : MapI} {W H : Nat} {f : Nat → Bool} {M : MD} {V : List (Nat × T3)} (h : GM F W H f M V) (hW : W = 1 ∨ W = 2) (hH : H = 1 ∨ H = 2) : ArOk M.pts M.tris := by
 have hb := hB_true (f := f) hW hH
 unfold hB at hb
 simp only [Bool.and_eq_true, decide_eq_true_eq, List.all_eq_true, List.mem_range] at hb
 obtain ⟨b1, b2, b3, b4, b5⟩ := hb
 refine ⟨?_, ?_, ?_⟩
 ·rw [h.hull hW hH, h.pts]
  exact b3
 ·rw [h.hull hW hH, h.pts]
  intro i a b c ha hb hc
  have := b4 i (List.getElem?_eq_some_iff.1 ha).1 c hc
  rw [getD_of ha, getD_of hb] at this
  exact this
 ·rw [h.hull hW hH, h.lm.sumA h.tg, h.pts, ← b5]
  have := (h.pm.filter (fun v => decide (rv v)))
  rw [b1] at this
  exact sum_perm _ this
end Go.Proofs.Ytbanlhlggkdanaa
namespace Go.Proofs.Ytbanlhlggkdanaa
open Go.RowKit
end Go.Proofs.Ytbanlhlggkdanaa
namespace Go.Proofs.Ytbanlhlggkdanaa
open Go.RowKit
theorem trCells_f {l : List Tr} {i k : Nat} {t : Tr} (h : l[i]? = some t) (hk : k < 3) : (trCells l)[i * 9 + (6 + k)]? = some (.bool (t.fl k)) := by
 rw [trCells_get h (by omega)]
 match k, hk with
 | 0, _ => rfl
 | 1, _ => rfl
 | 2, _ => rfl
section
variable {F : MapI} {W H : Nat} {f : Nat → Bool} {M : MD} {V : List (Nat × T3)}
theorem GM.sound {B : Nat} {hm : Mh} (h : GM F W H f M V) (hW : W = 1 ∨ W = 2) (hH : H = 1 ∨ H = 2) (hP : ∀ j, j < M.pts.length → P2 (M.pts.getD j (0, 0)).1 (M.pts.getD j (0, 0)).2) (hna : hm.na = M.ats.length) (hal : M.ats.length ≤ 1000000) :
  Tri Try.prog 31 [.pointer (some ⟨B, 0, none⟩)] [] (atFs B hm M.pts M.tris M.ats) (Ret0 (.bool true)) :=
 sound_c hP h.vok hna (Nat.le_trans h.len (by decide)) hal (fun _ => ⟨h.st, h.ar hW hH⟩) ⟨fun _ => h.snd, fun _ => rfl⟩
end
end Go.Proofs.Ytbanlhlggkdanaa
