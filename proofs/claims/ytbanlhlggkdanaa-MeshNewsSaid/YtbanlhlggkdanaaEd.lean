/- What the law MeshNews needs. Part 4: the texts of V2 V4 V5 V6 V3 V7 S9 S10 V9 S8 Cln Def T2 V10 V8 S11 T3 T5 RowS RowT RowU RowV. -/
import Derived.Test.YtbanlhlggkdanaaEc
import Derived.Lib.SliceRun
import Derived.Laws.IdiomArrays
import Derived.OpenShut
import Derived.ProofKit
import Derived.Lib.SmallJoins
import Derived.Below
import Derived.ChangeSame
import Derived.ReadAgain
import Derived.ChangeSlices
import Derived.Deep.Slices
set_option linter.unusedSimpArgs false
set_option linter.unusedVariables false
namespace Go.Proofs.Ytbanlhlggkdanaa
open Go.RowKit
theorem idx3 (x y z v : Int) : Lib.idxOf [x, y, z] v = if x = v then 0 else if y = v then 1 else if z = v then 2 else -1 := by
 simp only [Lib.idxOf, Lib.idxFrom]
 by_cases h1 : x = v
 ·simp [h1]
 ·by_cases h2 : y = v
  ·simp [h1, h2]
  ·by_cases h3 : z = v <;> simp [h1, h2, h3]
theorem plc_eq (t : Tr) (v : Int) : plc t v = if t.v0 = v then 0 else if t.v1 = v then 1 else if t.v2 = v then 2 else -1 := idx3 ..
theorem plc_has {t : Tr} {v : Int} {k : Nat} (hk : k < 3) (h : t.v k = v) : ∃ p : Nat, plc t v = p ∧ p < 3 ∧ t.v p = v := by
 rw [plc_eq]
 by_cases h0 : t.v0 = v
 ·exact ⟨0, by rw [if_pos h0]; rfl, by decide, h0⟩
 ·rw [if_neg h0]
  by_cases h1 : t.v1 = v
  ·exact ⟨1, by rw [if_pos h1]; rfl, by decide, h1⟩
  ·rw [if_neg h1]
   by_cases h2 : t.v2 = v
   ·exact ⟨2, by rw [if_pos h2]; rfl, by decide, h2⟩
   ·exfalso
    match k, hk with
    | 0, _ => exact h0 h
    | 1, _ => exact h1 h
    | 2, _ => exact h2 h
theorem besI_iff {tris : List Tr} {t : Tr} {n : Int} {i : Nat} (h : besI tris t n i = true) : 0 ≤ t.n i ∧ ∃ (o : Tr) (j : Nat), tris[(t.n i).toNat]? = some o ∧ j < 3 ∧ o.v ((j + 1) % 3) = t.v ((i + 2) % 3) ∧ o.v ((j + 2) % 3) = t.v ((i + 1) % 3) ∧ o.n j = n ∧ o.fl j = t.fl i := by
 unfold besI at h
 split at h
 ·cases h
 ·rename_i hn
  have h0 : 0 ≤ t.n i := by omega
  cases ho : tris[(t.n i).toNat]? with
  | none => rw [ho] at h; cases h
  | some o =>
   rw [ho] at h
   dsimp only at h
   refine ⟨h0, o, ?_⟩
   have step : ∀ (f : Bool) (j : Nat), besF o t n i f j = true → (o.v ((j + 1) % 3) = t.v ((i + 2) % 3) ∧ o.v ((j + 2) % 3) = t.v ((i + 1) % 3) ∧ o.n j = n ∧ o.fl j = t.fl i) ∨ f = true := by
    intro f j q
    unfold besF at q
    split at q
    ·rename_i p
     rw [Bool.and_eq_true, decide_eq_true_eq, beq_iff_eq] at q
     exact .inl ⟨p.1, p.2, q.1, q.2⟩
    ·exact .inr q
   have h2 : besF o t n i (besF o t n i (besF o t n i false 0) 1) 2 = true := h
   rcases step _ _ h2 with q | q
   ·exact ⟨2, rfl, by decide, q⟩
   ·rcases step _ _ q with q | q
    ·exact ⟨1, rfl, by decide, q⟩
    ·rcases step _ _ q with q | q
     ·exact ⟨0, rfl, by decide, q⟩
     ·cases q
theorem besB_iff {tris : List Tr} {t : Tr} {n : Int} {i : Nat} (h : besB tris t n = true) (hi : i < 3) : besI tris t n i = true := by
 unfold besB at h
 rw [Bool.and_eq_true, Bool.and_eq_true] at h
 match i, hi with
 | 0, _ => exact h.1
 | 1, _ => exact h.2.1
 | 2, _ => exact h.2.2
theorem gone_all {pts : List (Int × Int)} {t : Tr} (h : madeB pts t = true) (h0 : t.v0 = -2) : ∀ k, k < 3 → t.v k = -2 := by
 have e0 : t.v 0 = t.v0 := rfl
 have e1 : t.v 1 = t.v1 := rfl
 have e2 : t.v 2 = t.v2 := rfl
 have hc : cntv t (-2) 3 = (if t.v0 = -2 then 1 else 0) + (if t.v1 = -2 then 1 else 0) + (if t.v2 = -2 then 1 else 0) := by
  simp only [cntv, e0, e1, e2, Int.zero_add]
 unfold madeB at h
 rw [if_pos (by rw [hc, if_pos h0]; (repeat' split) <;> omega), decide_eq_true_eq, hc, if_pos h0] at h
 intro k hk
 match k, hk with
 | 0, _ => exact h0
 | 1, _ => rw [e1]; (repeat' split at h) <;> omega
 | 2, _ => rw [e2]; (repeat' split at h) <;> omega
theorem snd_cl {pts : List (Int × Int)} {tris : List Tr} (h : sndP pts tris) (v : Int) (n k : Nat) (t : Tr) (hv : v ≠ -2) (ht : tris[n]? = some t) (hk : k < 3) (he : t.v k = v) : ∃ S : Int → Prop, S (n : Int) ∧ ∀ x, S x → 0 ≤ x ∧ ∃ (t : Tr) (p : Nat), tris[x.toNat]? = some t ∧ plc t v = p ∧ p < 3 ∧ S (t.n ((p + 1) % 3)) := by
 refine ⟨fun x => 0 ≤ x ∧ ∃ (t : Tr) (k : Nat), tris[x.toNat]? = some t ∧ k < 3 ∧ t.v k = v, ⟨Int.natCast_nonneg n, t, k, by simpa using ht, hk, he⟩, ?_⟩
 rintro x ⟨hx, u, j, hu, hj, huv⟩
 obtain ⟨p, hp, hp3, hpv⟩ := plc_has hj huv
 refine ⟨hx, u, p, hu, hp, hp3, ?_⟩
 have hok := h.2 _ _ hu
 unfold okT at hok
 rw [Bool.and_eq_true, Bool.or_eq_true, decide_eq_true_eq] at hok
 have hb : besB tris u ((x.toNat : Nat) : Int) = true := by
  rcases hok.2 with q | q
  ·exact absurd (gone_all hok.1 q j hj) (by rw [huv]; exact hv)
  ·exact q
 obtain ⟨h0, o, j', ho, hj', e1, e2, _⟩ := besI_iff (besB_iff hb (Nat.mod_lt (p + 1) (by decide : 0 < 3)))
 refine ⟨h0, o, (j' + 1) % 3, ho, Nat.mod_lt _ (by decide), ?_⟩
 rw [e1, show ((p + 1) % 3 + 2) % 3 = p by omega]
 exact hpv
theorem rnd_is {tris : List Tr} {v fr : Int} {m M : Nat} (h : RndOk tris v fr m) (h1 : 1 ≤ M) (h2 : M ≤ tris.length) (h3 : itr tris v M fr = fr) (h4 : ∀ j, 0 < j → j < M → itr tris v j fr ≠ fr) : m = M := by
 have a := h.one
 have b : m ≤ M := by
  apply Classical.byContradiction
  intro q
  exact h.no M h1 (by omega) h3
 rcases h.fin with q | q
 ·apply Classical.byContradiction
  intro r
  exact h4 m a (by omega) q
 ·omega
theorem pA_ne {pts : List (Int × Int)} {a b c : Nat} (h : 0 < pA pts a b c) : a ≠ b ∧ b ≠ c ∧ c ≠ a := by
 unfold pA A2 det at h
 refine ⟨?_, ?_, ?_⟩
 ·rintro rfl; simp at h
 ·rintro rfl
  rw [Int.mul_comm] at h
  omega
 ·rintro rfl; simp at h
section
variable {pts : List (Int × Int)} {a b c : Nat}
theorem new_nxt (h1 : a ≠ b) (h2 : b ≠ c) (h3 : c ≠ a) :
  (nxt (triNew a b c) a 0 = 2 ∧ nxt (triNew a b c) a 2 = 3 ∧ nxt (triNew a b c) a 3 = 0) ∧ (nxt (triNew a b c) b 0 = 3 ∧ nxt (triNew a b c) b 3 = 1 ∧ nxt (triNew a b c) b 1 = 0) ∧
  (nxt (triNew a b c) c 0 = 1 ∧ nxt (triNew a b c) c 1 = 2 ∧ nxt (triNew a b c) c 2 = 0) ∧ (nxt (triNew a b c) (-1) 1 = 3 ∧ nxt (triNew a b c) (-1) 3 = 2 ∧ nxt (triNew a b c) (-1) 2 = 1) := by
 have e1 : ¬ (b : Int) = a := by omega
 have e2 : ¬ (c : Int) = b := by omega
 have e3 : ¬ (a : Int) = c := by omega
 have e4 : ¬ (a : Int) = b := by omega
 have e5 : ¬ (b : Int) = c := by omega
 have e6 : ¬ (c : Int) = a := by omega
 have f1 : ¬ (a : Int) = -1 := by omega
 have f2 : ¬ (b : Int) = -1 := by omega
 have f3 : ¬ (c : Int) = -1 := by omega
 refine ⟨⟨?_, ?_, ?_⟩, ⟨?_, ?_, ?_⟩, ⟨?_, ?_, ?_⟩, ⟨?_, ?_, ?_⟩⟩ <;> simp [nxt, triNew, plc_eq, e1, e2, e3, e4, e5, e6, f1, f2, f3] <;> rfl
theorem new_cnt (h1 : a ≠ b) (h2 : b ≠ c) (h3 : c ≠ a) (v : Int) : cntA v (triNew a b c) = if v = a ∨ v = b ∨ v = c ∨ v = -1 then 3 else 0 := by
 simp only [triNew, cntA, cntv, Tr.v, at3]
 simp only [reduceIte, show ¬ (1 : Nat) = 0 by decide, show ¬ (2 : Nat) = 0 by decide, show ¬ (2 : Nat) = 1 by decide]
 (repeat' split) <;> omega
theorem new_mem {t : Tr} {n : Nat} (h : (triNew a b c)[n]? = some t) : (n = 0 ∧ t = ⟨a, b, c, 1, 2, 3, false, false, false⟩) ∨ (n = 1 ∧ t = ⟨c, b, -1, 3, 2, 0, false, false, false⟩) ∨ (n = 2 ∧ t = ⟨a, c, -1, 1, 3, 0, false, false, false⟩) ∨ (n = 3 ∧ t = ⟨b, a, -1, 2, 1, 0, false, false, false⟩) := by
 match n with
 | 0 => left; exact ⟨rfl, (Option.some.inj h).symm⟩
 | 1 => right; left; exact ⟨rfl, (Option.some.inj h).symm⟩
 | 2 => right; right; left; exact ⟨rfl, (Option.some.inj h).symm⟩
 | 3 => right; right; right; exact ⟨rfl, (Option.some.inj h).symm⟩
 | n + 4 => simp [triNew] at h
theorem new_snd (ha : a < pts.length) (hb : b < pts.length) (hc : c < pts.length) (hA : 0 < pA pts a b c) : sndP pts (triNew a b c) := by
 obtain ⟨h1, h2, h3⟩ := pA_ne hA
 have e1 : ¬ (b : Int) = a := by omega
 have e2 : ¬ (c : Int) = b := by omega
 have e3 : ¬ (a : Int) = c := by omega
 have e4 : ¬ (a : Int) = b := by omega
 have e5 : ¬ (b : Int) = c := by omega
 have e6 : ¬ (c : Int) = a := by omega
 have f1 : ¬ (a : Int) = -1 := by omega
 have f2 : ¬ (b : Int) = -1 := by omega
 have f3 : ¬ (c : Int) = -1 := by omega
 have g1 : ¬ (a : Int) = -2 := by omega
 have g2 : ¬ (b : Int) = -2 := by omega
 have g3 : ¬ (c : Int) = -2 := by omega
 have k1 : ¬ (-1 : Int) = a := by omega
 have k2 : ¬ (-1 : Int) = b := by omega
 have k3 : ¬ (-1 : Int) = c := by omega
 refine ⟨?_, fun n t hn => ?_⟩
 ·simp [liveE, triNew, edTs, edT, Tr.v, at3, g1, g2, g3, e1, e2, e3, e4, e5, e6, f1, f2, f3, k1, k2, k3]
 ·unfold okT
  rw [Bool.and_eq_true]
  have hA' : 0 < A2 (ptAt pts a).1 (ptAt pts a).2 (ptAt pts b).1 (ptAt pts b).2 (ptAt pts c).1 (ptAt pts c).2 := hA
  rcases new_mem hn with ⟨rfl, rfl⟩ | ⟨rfl, rfl⟩ | ⟨rfl, rfl⟩ | ⟨rfl, rfl⟩ <;> refine ⟨?_, ?_⟩
  ·simp [madeB, cntv, Tr.v, at3, f1, f2, f3, g1, g2, g3, hA']
  ·simp [besB, besI, besF, triNew, Tr.v, Tr.n, Tr.fl, at3, e1, e2, e3, e4, e5, e6, f1, f2, f3, k1, k2, k3]
  ·simp [madeB, cntv, Tr.v, at3, f1, f2, f3, g1, g2, g3]
  ·simp [besB, besI, besF, triNew, Tr.v, Tr.n, Tr.fl, at3, e1, e2, e3, e4, e5, e6, f1, f2, f3, k1, k2, k3]
  ·simp [madeB, cntv, Tr.v, at3, f1, f2, f3, g1, g2, g3]
  ·simp [besB, besI, besF, triNew, Tr.v, Tr.n, Tr.fl, at3, e1, e2, e3, e4, e5, e6, f1, f2, f3, k1, k2, k3]
  ·simp [madeB, cntv, Tr.v, at3, f1, f2, f3, g1, g2, g3]
  ·simp [besB, besI, besF, triNew, Tr.v, Tr.n, Tr.fl, at3, e1, e2, e3, e4, e5, e6, f1, f2, f3, k1, k2, k3]
end
end Go.Proofs.Ytbanlhlggkdanaa
namespace Go.Proofs.Ytbanlhlggkdanaa
open Go.RowKit
abbrev T3 := Int × Int × Int
def tv (v : T3) (k : Nat) : Int := at3 v.1 v.2.1 v.2.2 k
theorem kv_tv (v : T3) (k : Nat) : kv v k = (tv v ((k + 1) % 3), tv v ((k + 2) % 3)) := rfl
theorem vw_iff {l : List Tr} {q : Nat} {v : T3} : vw l q = some v ↔ ∃ t, l[q]? = some t ∧ (t.v0, t.v1, t.v2) = v := by
 unfold vw
 cases l[q]? with
 | none => simp
 | some t => simp
structure LM (F : MapI) (tris : List Tr) (V : List (Nat × T3)) : Prop where
 vs : ∀ x, x ∈ V → vw tris x.1 = some x.2
 al : ∀ q v, vw tris q = some v → v = (-2, -2, -2) ∨ (q, v) ∈ V
 lk : ∀ x, x ∈ V → ∀ k, k < 3 → ∀ y, y ∈ V → ∀ j, j < 3 → kv y.2 j = rev2 (kv x.2 k) → nb tris x.1 k = some (y.1 : Int) ∧ fb tris x.1 k = some (flt F (kv x.2 k).1 (kv x.2 k).2)
 un : ∀ x, x ∈ V → ∀ k, k < 3 → ∀ y, y ∈ V → ∀ j, j < 3 → kv x.2 k = kv y.2 j → x = y ∧ k = j
theorem SM.lm {F : MapI} {s : BS} {V : List (Nat × T3)} (h : SM F s V) : LM F s.M.tris V where
 vs := h.vs
 al := fun q v hq => by
  rcases h.all q v hq with p | p
  ·have := h.gn _ p
   rw [show ((q : Int)).toNat = q from Int.toNat_natCast q, hq] at this
   exact .inl (Option.some.inj this)
  ·exact .inr p
 lk := fun x hx k hk y hy j hj he => h.si.lk _ (slot_mem hx hk) _ (slot_mem hy hj) he
 un := fun x hx k hk y hy j hj he => by
  have := h.si.uq _ (slot_mem hx hk) _ (slot_mem hy hj) he
  simp only [Prod.mk.injEq] at this
  obtain ⟨e1, e2, _⟩ := this
  refine ⟨Prod.ext e1 ?_, e2⟩
  have q1 := h.vs x hx
  rw [e1, h.vs y hy] at q1
  exact (Option.some.inj q1).symm
def cnt3 (p : Int) (v : T3) : Int := (if v.1 = p then 1 else 0) + (if v.2.1 = p then 1 else 0) + (if v.2.2 = p then 1 else 0)
def cntT (p : Int) (T : List T3) : Int := (T.map (cnt3 p)).sum
structure TG (n : Nat) (T : List T3) : Prop where
 ds : ∀ v, v ∈ T → dist3 v
 nd : (T.flatMap eds).Nodup
 rv : ∀ v, v ∈ T → ∀ k, k < 3 → ∃ w, w ∈ T ∧ ∃ j, j < 3 ∧ kv w j = rev2 (kv v k)
 ok : ∀ v, v ∈ T → ∀ k, k < 3 → tv v k = -1 ∨ (0 ≤ tv v k ∧ tv v k < n)
 st : ∀ v, v ∈ T → ∀ k, k < 3 → ∃ ws : List Int, ws.Nodup ∧ 0 < ws.length ∧ cntT (tv v k) T = ws.length ∧ ∀ u, u ∈ T → ∀ m, m < 3 → tv u m = tv v k → ∃ i, ws[i]? = some (tv u ((m + 1) % 3)) ∧ ws[(i + 1) % ws.length]? = some (tv u ((m + 2) % 3))
 al : ∀ p : Nat, p < n → ∃ v, v ∈ T ∧ has3 p v
 gh : ∃ v, v ∈ T ∧ has3 (-1) v
theorem has3_tv {p : Int} {v : T3} : has3 p v ↔ ∃ k, k < 3 ∧ tv v k = p := by
 constructor
 ·rintro (h | h | h)
  ·exact ⟨0, by decide, h.symm⟩
  ·exact ⟨1, by decide, h.symm⟩
  ·exact ⟨2, by decide, h.symm⟩
 ·rintro ⟨k, hk, h⟩
  match k, hk with
  | 0, _ => exact .inl h.symm
  | 1, _ => exact .inr (.inl h.symm)
  | 2, _ => exact .inr (.inr h.symm)
theorem tv_inj {v : T3} (h : dist3 v) {k j : Nat} (hk : k < 3) (hj : j < 3) (he : tv v k = tv v j) : k = j := by
 obtain ⟨d1, d2, d3⟩ := h
 match k, hk, j, hj with
 | 0, _, 0, _ => rfl
 | 1, _, 1, _ => rfl
 | 2, _, 2, _ => rfl
 | 0, _, 1, _ => exact absurd he d1
 | 1, _, 0, _ => exact absurd he.symm d1
 | 1, _, 2, _ => exact absurd he d2
 | 2, _, 1, _ => exact absurd he.symm d2
 | 2, _, 0, _ => exact absurd he d3
 | 0, _, 2, _ => exact absurd he.symm d3
theorem TG.nodup {n : Nat} {T : List T3} (h : TG n T) : T.Nodup := by
 have := h.nd
 unfold List.Nodup at this ⊢
 rw [List.pairwise_flatMap] at this
 exact this.2.imp (fun {a b} hab q => by subst q; exact hab (kv a 0) (.head _) (kv a 0) (.head _) rfl)
def lvF : Nat → List Tr → List (Nat × T3)
 | _, [] => []
 | k, t :: r => if t.v0 = -2 then lvF (k + 1) r else (k, (t.v0, t.v1, t.v2)) :: lvF (k + 1) r
theorem lvF_cons {k : Nat} {t : Tr} {r : List Tr} : lvF k (t :: r) = if t.v0 = -2 then lvF (k + 1) r else (k, (t.v0, t.v1, t.v2)) :: lvF (k + 1) r := rfl
theorem lvF_mem : ∀ {l : List Tr} {k q : Nat} {v : T3}, (q, v) ∈ lvF k l ↔ k ≤ q ∧ vw l (q - k) = some v ∧ v.1 ≠ -2
 | [], k, q, v => by simp [lvF, vw]
 | t :: l, k, q, v => by
  have ih := lvF_mem (l := l) (k := k + 1) (q := q) (v := v)
  have key : (k + 1 ≤ q ∧ vw l (q - (k + 1)) = some v ∧ v.1 ≠ -2) ↔ (k < q ∧ vw (t :: l) (q - k) = some v ∧ v.1 ≠ -2) := by
   constructor
   ·rintro ⟨h1, h2, h3⟩
    refine ⟨h1, ?_, h3⟩
    rw [show q - k = (q - (k + 1)) + 1 by omega]
    exact h2
   ·rintro ⟨h1, h2, h3⟩
    refine ⟨h1, ?_, h3⟩
    rw [show q - k = (q - (k + 1)) + 1 by omega] at h2
    exact h2
  unfold lvF
  split
  ·rename_i hg
   rw [ih, key]
   constructor
   ·rintro ⟨h1, h2⟩; exact ⟨by omega, h2⟩
   ·rintro ⟨h1, h2, h3⟩
    refine ⟨?_, h2, h3⟩
    rcases Nat.lt_or_ge k q with p | p
    ·exact p
    ·rw [show q - k = 0 by omega] at h2
     simp [vw] at h2
     subst h2
     exact absurd hg h3
  ·rename_i hg
   rw [List.mem_cons, ih, key]
   constructor
   ·rintro (h1 | ⟨h1, h2⟩)
    ·cases h1
     exact ⟨Nat.le_refl _, by rw [Nat.sub_self]; rfl, hg⟩
    ·exact ⟨by omega, h2⟩
   ·rintro ⟨h1, h2, h3⟩
    rcases Nat.lt_or_ge k q with p | p
    ·exact .inr ⟨p, h2, h3⟩
    ·rw [show q - k = 0 by omega] at h2
     simp [vw] at h2
     left
     rw [← h2, show q = k by omega]
theorem lvF_nodup : ∀ {l : List Tr} {k : Nat}, (lvF k l).Nodup
 | [], _ => List.nodup_nil
 | t :: l, k => by
  unfold lvF
  split
  ·exact lvF_nodup
  ·rw [List.nodup_cons]
   exact ⟨fun q => by have := (lvF_mem.1 q).1; omega, lvF_nodup⟩
section
variable {F : MapI} {tris : List Tr} {V : List (Nat × T3)} {n : Nat} {pts : List (Int × Int)} {ats : List Int}
theorem TG.ne2 (hT : TG n (V.map (·.2))) {x : Nat × T3} (hx : x ∈ V) {k : Nat} (hk : k < 3) : tv x.2 k ≠ -2 := by
 have := hT.ok x.2 (List.mem_map.2 ⟨x, hx, rfl⟩) k hk
 omega
theorem LM.perm (h : LM F tris V) (hT : TG n (V.map (·.2))) : (lvF 0 tris).Perm V := by
 rw [List.perm_ext_iff_of_nodup lvF_nodup (nodup_of_map hT.nodup)]
 rintro ⟨q, v⟩
 rw [lvF_mem]
 constructor
 ·rintro ⟨_, h2, h3⟩
  rcases h.al q v h2 with p | p
  ·subst p; exact absurd rfl h3
  ·exact p
 ·intro hx
  exact ⟨Nat.zero_le _, h.vs _ hx, hT.ne2 hx (by decide : 0 < 3)⟩
theorem LM.get (h : LM F tris V) {x : Nat × T3} (hx : x ∈ V) : ∃ t, tris[x.1]? = some t ∧ (t.v0, t.v1, t.v2) = x.2 := vw_iff.1 (h.vs x hx)
theorem LM.of (h : LM F tris V) {q : Nat} {t : Tr} (ht : tris[q]? = some t) (h0 : t.v0 ≠ -2) : (q, (t.v0, t.v1, t.v2)) ∈ V := by
 rcases h.al q _ (vw_iff.2 ⟨t, ht, rfl⟩) with p | p
 ·exact absurd (congrArg Prod.fst p) h0
 ·exact p
theorem nb_at {l : List Tr} {q k : Nat} {x : Int} {t : Tr} (h : nb l q k = some x) (ht : l[q]? = some t) : t.n k = x := by
 unfold nb at h
 rw [ht] at h
 exact Option.some.inj h
theorem fb_at {l : List Tr} {q k : Nat} {x : Bool} {t : Tr} (h : fb l q k = some x) (ht : l[q]? = some t) : t.fl k = x := by
 unfold fb at h
 rw [ht] at h
 exact Option.some.inj h
theorem LM.across (h : LM F tris V) (hT : TG n (V.map (·.2))) {x : Nat × T3} (hx : x ∈ V) {t : Tr} (ht : tris[x.1]? = some t) {k : Nat} (hk : k < 3) : ∃ y, y ∈ V ∧ ∃ j, j < 3 ∧ kv y.2 j = rev2 (kv x.2 k) ∧ t.n k = (y.1 : Int) ∧ t.fl k = flt F (kv x.2 k).1 (kv x.2 k).2 ∧ ∃ o, tris[y.1]? = some o ∧ (o.v0, o.v1, o.v2) = y.2 ∧ o.n j = (x.1 : Int) ∧ o.fl j = t.fl k := by
 obtain ⟨w, hw, j, hj, he⟩ := hT.rv x.2 (List.mem_map.2 ⟨x, hx, rfl⟩) k hk
 obtain ⟨y, hy, rfl⟩ := List.mem_map.1 hw
 obtain ⟨l1, l2⟩ := h.lk x hx k hk y hy j hj he
 obtain ⟨l3, l4⟩ := h.lk y hy j hj x hx k hk (by rw [he])
 obtain ⟨o, ho, hov⟩ := h.get hy
 refine ⟨y, hy, j, hj, he, nb_at l1 ht, fb_at l2 ht, o, ho, hov, nb_at l3 ho, ?_⟩
 rw [fb_at l4 ho, fb_at l2 ht, he, flt_comm]
theorem LM.bes (h : LM F tris V) (hT : TG n (V.map (·.2))) {q : Nat} {t : Tr} (ht : tris[q]? = some t) (h0 : t.v0 ≠ -2) : besB tris t (q : Nat) = true := by
 have hx := h.of ht h0
 have key : ∀ k, k < 3 → besI tris t (q : Nat) k = true := by
  intro k hk
  obtain ⟨y, hy, j, hj, he, hn, hf, o, ho, hov, hon, hof⟩ := h.across hT hx ht hk
  have hl := (List.getElem?_eq_some_iff.1 ho).1
  have e1 : kv (t.v0, t.v1, t.v2) k = (t.v ((k + 1) % 3), t.v ((k + 2) % 3)) := rfl
  have e2 : ∀ m, kv y.2 m = (o.v ((m + 1) % 3), o.v ((m + 2) % 3)) := fun m => by rw [← hov]; rfl
  dsimp only at he hf
  rw [e1] at he hf
  rw [e2 j] at he
  simp only [rev2, Prod.mk.injEq] at he
  unfold besI
  rw [if_neg]
  ·rw [hn, Int.toNat_natCast, ho]
   dsimp only
   have h1 : ∀ f, besF o t (q : Nat) k f j = true := by
    intro f
    unfold besF
    rw [if_pos he, hon, hof]
    simp
   have h2 : ∀ f m, m < 3 → m ≠ j → besF o t (q : Nat) k f m = f := by
    intro f m hm hne
    unfold besF
    rw [if_neg]
    rintro ⟨p1, p2⟩
    have : kv y.2 m = kv y.2 j := by rw [e2, e2, p1, p2, he.1, he.2]
    exact hne (h.un y hy m hm y hy j hj this).2
   show besF o t (q : Nat) k (besF o t (q : Nat) k (besF o t (q : Nat) k false 0) 1) 2 = true
   match j, hj with
   | 0, _ => rw [h2 _ 2 (by decide) (by decide), h2 _ 1 (by decide) (by decide)]; exact h1 _
   | 1, _ => rw [h2 _ 2 (by decide) (by decide)]; exact h1 _
   | 2, _ => exact h1 _
  ·rintro (p | p | ⟨p1, p2⟩)
   ·rw [hn] at p; omega
   ·rw [hn] at p; omega
   ·rw [hf] at p1
    unfold flt at p1
    simp only [Bool.and_eq_true, decide_eq_true_eq] at p1
    omega
 unfold besB
 rw [key 0 (by decide), key 1 (by decide), key 2 (by decide)]
 rfl
theorem liveE_lv : ∀ (l : List Tr) (k : Nat), liveE l = (lvF k l).flatMap (fun x => eds x.2)
 | [], _ => rfl
 | t :: l, k => by
  have ih := liveE_lv l (k + 1)
  unfold liveE at ih ⊢
  rw [List.flatMap_cons, ih, lvF_cons]
  by_cases h0 : t.v0 = -2
  ·rw [if_pos h0, if_pos h0]; rfl
  ·rw [if_neg h0, if_neg h0, List.flatMap_cons]; rfl
theorem flatMap_snd (V : List (Nat × T3)) : V.flatMap (fun x => eds x.2) = (V.map (·.2)).flatMap eds := by rw [List.flatMap_map]
def madeV (pts : List (Int × Int)) (v : T3) : Bool := madeB pts ⟨v.1, v.2.1, v.2.2, -1, -1, -1, false, false, false⟩
theorem LM.snd (h : LM F tris V) (hT : TG n (V.map (·.2))) (hm : ∀ v, v ∈ V.map (·.2) → madeV pts v = true) : sndP pts tris := by
 refine ⟨?_, fun q t ht => ?_⟩
 ·rw [liveE_lv tris 0]
  have := ((h.perm hT).flatMap_right (fun x => eds x.2)).nodup_iff
  rw [this, flatMap_snd]
  exact hT.nd
 ·unfold okT
  rw [Bool.and_eq_true]
  by_cases h0 : t.v0 = -2
  ·rcases h.al q _ (vw_iff.2 ⟨t, ht, rfl⟩) with p | p
   ·refine ⟨?_, by rw [decide_eq_true h0]; rfl⟩
    simp only [Prod.mk.injEq] at p
    obtain ⟨p0, p1, p2⟩ := p
    simp [madeB, cntv, Tr.v, at3, p0, p1, p2]
   ·exact absurd h0 (hT.ne2 p (by decide : 0 < 3))
  ·refine ⟨hm _ (List.mem_map.2 ⟨_, h.of ht h0, rfl⟩), ?_⟩
   rw [h.bes hT ht h0, Bool.or_true]
theorem cntv_3 (t : Tr) (p : Int) : cntv t p 3 = cnt3 p (t.v0, t.v1, t.v2) := by
 have e0 : t.v 0 = t.v0 := rfl
 have e1 : t.v 1 = t.v1 := rfl
 have e2 : t.v 2 = t.v2 := rfl
 simp only [cntv, cnt3, e0, e1, e2, Int.zero_add]
theorem cntA_lv {p : Int} (hp : p ≠ -2) : ∀ (l : List Tr) (k : Nat), (∀ t, t ∈ l → t.v0 = -2 → t.v1 = -2 ∧ t.v2 = -2) → cntA p l = cntT p ((lvF k l).map (·.2))
 | [], _, _ => rfl
 | t :: l, k, hg => by
  have ih := cntA_lv hp l (k + 1) (fun t ht => hg t (.tail _ ht))
  unfold cntA
  rw [ih, cntv_3, lvF_cons]
  split
  ·rename_i h0
   obtain ⟨h1, h2⟩ := hg t (.head _) h0
   unfold cnt3
   rw [h0, h1, h2, if_neg (fun q => hp q.symm)]
   omega
  ·unfold cntT
   rw [List.map_cons, List.map_cons, List.sum_cons]
theorem sum_perm {α : Type} (f : α → Int) {l l' : List α} (h : l.Perm l') : (l.map f).sum = (l'.map f).sum := by
 induction h with
 | nil => rfl
 | cons x _ ih => simp [ih]
 | swap x y l => simp only [List.map_cons, List.sum_cons]; omega
 | trans _ _ ih1 ih2 => exact ih1.trans ih2
theorem LM.gone (h : LM F tris V) (hT : TG n (V.map (·.2))) : ∀ t, t ∈ tris → t.v0 = -2 → t.v1 = -2 ∧ t.v2 = -2 := by
 intro t ht h0
 obtain ⟨q, hq⟩ := List.mem_iff_getElem?.1 ht
 rcases h.al q _ (vw_iff.2 ⟨t, hq, rfl⟩) with p | p
 ·simp only [Prod.mk.injEq] at p; exact p.2
 ·exact absurd h0 (hT.ne2 p (by decide : 0 < 3))
theorem LM.cnt (h : LM F tris V) (hT : TG n (V.map (·.2))) {p : Int} (hp : p ≠ -2) : cntA p tris = cntT p (V.map (·.2)) := by
 rw [cntA_lv hp tris 0 (h.gone hT)]
 exact sum_perm _ ((h.perm hT).map _)
end
end Go.Proofs.Ytbanlhlggkdanaa
namespace Go.Proofs.Ytbanlhlggkdanaa
open Go.RowKit
section
variable {F : MapI} {tris : List Tr} {V : List (Nat × T3)} {n : Nat} {pts : List (Int × Int)} {ats : List Int}
theorem LM.plc (h : LM F tris V) (hT : TG n (V.map (·.2))) {x : Nat × T3} (hx : x ∈ V) {t : Tr} (ht : tris[x.1]? = some t) {k : Nat} (hk : k < 3) : plc t (tv x.2 k) = (k : Nat) := by
 obtain ⟨u, hu, huv⟩ := h.get hx
 rw [ht] at hu
 cases hu
 have e : ∀ m, t.v m = tv x.2 m := fun m => by rw [← huv]; rfl
 obtain ⟨p, hp, hp3, hpv⟩ := plc_has (t := t) (v := tv x.2 k) hk (e k)
 rw [hp, tv_inj (hT.ds x.2 (List.mem_map.2 ⟨x, hx, rfl⟩)) hp3 hk ((e p).symm.trans hpv)]
theorem LM.next (h : LM F tris V) (hT : TG n (V.map (·.2))) {x : Nat × T3} (hx : x ∈ V) {k : Nat} (hk : k < 3) : ∃ y, y ∈ V ∧ nxt tris (tv x.2 k) x.1 = (y.1 : Int) ∧ ∃ m, m < 3 ∧ tv y.2 m = tv x.2 k ∧ tv y.2 ((m + 1) % 3) = tv x.2 ((k + 2) % 3) := by
 obtain ⟨t, ht, _⟩ := h.get hx
 obtain ⟨y, hy, j, hj, he, hn, _⟩ := h.across hT hx ht (Nat.mod_lt (k + 1) (by decide : 0 < 3))
 refine ⟨y, hy, ?_, (j + 1) % 3, Nat.mod_lt _ (by decide), ?_, ?_⟩
 ·unfold nxt
  rw [Int.toNat_natCast, ht]
  dsimp only
  rw [h.plc hT hx ht hk, Int.toNat_natCast]
  exact hn
 ·have := congrArg Prod.fst he
  rw [kv_tv, kv_tv] at this
  dsimp only [rev2] at this
  rw [this, show ((k + 1) % 3 + 2) % 3 = k by omega]
 ·have := congrArg Prod.snd he
  rw [kv_tv, kv_tv] at this
  dsimp only [rev2] at this
  rw [show ((j + 1) % 3 + 1) % 3 = (j + 2) % 3 by omega, this, show ((k + 1) % 3 + 1) % 3 = (k + 2) % 3 by omega]
theorem at_inj {ws : List Int} (hn : ws.Nodup) {i j : Nat} {a : Int} (h1 : ws[i]? = some a) (h2 : ws[j]? = some a) : i = j :=
 (List.getElem?_inj (List.getElem?_eq_some_iff.1 h1).1 hn).1 (h1.trans h2.symm)
theorem cntT_le {p : Int} : ∀ {l : List T3}, (∀ v, v ∈ l → dist3 v) → cntT p l ≤ l.length
 | [], _ => Int.le_refl _
 | v :: l, h => by
  have ih := cntT_le (p := p) (l := l) (fun u hu => h u (.tail _ hu))
  obtain ⟨d1, d2, d3⟩ := h v (.head _)
  unfold cntT at ih ⊢
  rw [List.map_cons, List.sum_cons, List.length_cons]
  have : cnt3 p v ≤ 1 := by
   unfold cnt3
   (repeat' split) <;> omega
  omega
theorem lvF_len : ∀ (l : List Tr) (k : Nat), (lvF k l).length ≤ l.length
 | [], _ => Nat.le_refl _
 | t :: l, k => by
  have := lvF_len l (k + 1)
  rw [lvF_cons]
  split
  ·rw [List.length_cons]; omega
  ·rw [List.length_cons, List.length_cons]; omega
theorem LM.len (h : LM F tris V) (hT : TG n (V.map (·.2))) : V.length ≤ tris.length := by
 rw [← (h.perm hT).length_eq]
 exact lvF_len ..
theorem LM.orbit (h : LM F tris V) (hT : TG n (V.map (·.2))) {x : Nat × T3} (hx : x ∈ V) {k : Nat} (hk : k < 3) : ∃ ws : List Int, ws.Nodup ∧ 0 < ws.length ∧ (ws.length : Int) = cntA (tv x.2 k) tris ∧ ws.length ≤ tris.length ∧ ∃ i0, i0 < ws.length ∧ ws[i0]? = some (tv x.2 ((k + 1) % 3)) ∧
  (∀ j, ∃ y, y ∈ V ∧ itr tris (tv x.2 k) j x.1 = (y.1 : Int) ∧ ∃ m, m < 3 ∧ tv y.2 m = tv x.2 k ∧ ws[(i0 + j) % ws.length]? = some (tv y.2 ((m + 1) % 3))) ∧
  ∀ u, u ∈ V → ∀ m, m < 3 → tv u.2 m = tv x.2 k → ∃ i, i < ws.length ∧ ws[i]? = some (tv u.2 ((m + 1) % 3)) := by
 obtain ⟨ws, hn, h0, hc, hw⟩ := hT.st x.2 (List.mem_map.2 ⟨x, hx, rfl⟩) k hk
 have hcA : (ws.length : Int) = cntA (tv x.2 k) tris := by rw [h.cnt hT (hT.ne2 hx hk), hc]
 refine ⟨ws, hn, h0, hcA, ?_, ?_⟩
 ·have q1 := cntT_le (p := tv x.2 k) hT.ds
  have q2 := h.len hT
  rw [List.length_map] at q1
  omega
 obtain ⟨i0, hi0, hi1⟩ := hw x.2 (List.mem_map.2 ⟨x, hx, rfl⟩) k hk rfl
 have hil := (List.getElem?_eq_some_iff.1 hi0).1
 refine ⟨i0, hil, hi0, fun j => ?_, fun u hu m hm he => ?_⟩
 ·induction j with
  | zero => exact ⟨x, hx, rfl, k, hk, rfl, by rw [Nat.add_zero, Nat.mod_eq_of_lt hil]; exact hi0⟩
  | succ j ih =>
   obtain ⟨y, hy, hyi, m, hm, hym, hyw⟩ := ih
   obtain ⟨z, hz, hzn, m', hm', hzm, hzw⟩ := h.next hT hy hm
   refine ⟨z, hz, ?_, m', hm', hzm.trans hym, ?_⟩
   ·show nxt tris (tv x.2 k) (itr tris (tv x.2 k) j x.1) = _
    rw [hyi, ← hym]; exact hzn
   ·obtain ⟨i, hi2, hi3⟩ := hw y.2 (List.mem_map.2 ⟨y, hy, rfl⟩) m hm hym
    have e := at_inj hn hi2 hyw
    subst e
    rw [hzw, ← hi3]
    congr 1
    rw [Nat.mod_add_mod]
    rfl
 ·obtain ⟨i, hi2, _⟩ := hw u.2 (List.mem_map.2 ⟨u, hu, rfl⟩) m hm he
  exact ⟨i, (List.getElem?_eq_some_iff.1 hi2).1, hi2⟩
theorem LM.same (h : LM F tris V) {x y : Nat × T3} (hx : x ∈ V) (hy : y ∈ V) {k m : Nat} (hk : k < 3) (hm : m < 3) (e1 : tv x.2 k = tv y.2 m) (e2 : tv x.2 ((k + 1) % 3) = tv y.2 ((m + 1) % 3)) : x = y ∧ k = m := by
 have e : kv x.2 ((k + 2) % 3) = kv y.2 ((m + 2) % 3) := by
  rw [kv_tv, kv_tv, show ((k + 2) % 3 + 1) % 3 = k by omega, show ((k + 2) % 3 + 2) % 3 = (k + 1) % 3 by omega, show ((m + 2) % 3 + 1) % 3 = m by omega, show ((m + 2) % 3 + 2) % 3 = (m + 1) % 3 by omega, e1, e2]
 obtain ⟨q1, q2⟩ := h.un x hx _ (Nat.mod_lt _ (by decide)) y hy _ (Nat.mod_lt _ (by decide)) e
 exact ⟨q1, by omega⟩
theorem LM.num (h : LM F tris V) {x y : Nat × T3} (hx : x ∈ V) (hy : y ∈ V) (e : x.1 = y.1) : x = y := by
 have q := h.vs x hx
 rw [e, h.vs y hy] at q
 exact Prod.ext e (Option.some.inj q).symm
theorem mod_back {i j N : Nat} (hi : i < N) (h0 : 0 < j) (hj : j < N) : (i + j) % N ≠ i := by
 rcases Nat.lt_or_ge (i + j) N with p | p
 ·rw [Nat.mod_eq_of_lt p]; omega
 ·rw [Nat.mod_eq_sub_mod p, Nat.mod_eq_of_lt (by omega)]; omega
theorem LM.orb_end (h : LM F tris V) (hT : TG n (V.map (·.2))) {x : Nat × T3} (hx : x ∈ V) {k : Nat} (hk : k < 3) : ∃ N : Nat, 1 ≤ N ∧ (N : Int) = cntA (tv x.2 k) tris ∧ N ≤ tris.length ∧ itr tris (tv x.2 k) N x.1 = x.1 ∧ (∀ j, 0 < j → j < N → itr tris (tv x.2 k) j x.1 ≠ x.1) := by
 obtain ⟨ws, hn, h0, hcA, hl, i0, hil, hi0, ho, _⟩ := h.orbit hT hx hk
 refine ⟨ws.length, h0, hcA, hl, ?_, fun j j0 j1 q => ?_⟩
 ·obtain ⟨y, hy, hyi, m, hm, hym, hyw⟩ := ho ws.length
  rw [Nat.add_mod_right, Nat.mod_eq_of_lt hil, hi0] at hyw
  rw [hyi, (h.same hx hy hk hm hym.symm (Option.some.inj hyw)).1]
 ·obtain ⟨y, hy, hyi, m, hm, hym, hyw⟩ := ho j
  rw [hyi] at q
  have e := h.num hx hy (by omega)
  subst e
  have e2 := tv_inj (hT.ds x.2 (List.mem_map.2 ⟨x, hx, rfl⟩)) hm hk hym
  subst e2
  exact mod_back hil j0 j1 (at_inj hn hyw hi0)
theorem LM.st (h : LM F tris V) (hT : TG n (V.map (·.2))) (hs : sndP pts tris) (hal : ats.length = n) (hat : ∀ p : Nat, p < n → ∃ y, y ∈ V ∧ ats[p]? = some (y.1 : Int) ∧ has3 p y.2) : StOk tris ats := by
 have hpos : ∀ {x : Nat × T3}, x ∈ V → ∀ {k : Nat}, k < 3 → 0 < cntA (tv x.2 k) tris := by
  intro x hx k hk
  obtain ⟨ws, _, h0, hcA, _⟩ := h.orbit hT hx hk
  omega
 refine ⟨snd_cl hs, fun v q k t m hv hq hk he hr => ?_, fun v a ha => ?_, ?_⟩
 ·have h0 : t.v0 ≠ -2 := by
   intro q0
   have := h.gone hT t (List.mem_of_getElem? hq) q0
   match k, hk with
   | 0, _ => exact hv (he.symm.trans q0)
   | 1, _ => exact hv (he.symm.trans this.1)
   | 2, _ => exact hv (he.symm.trans this.2)
  have hx := h.of hq h0
  have e : tv (t.v0, t.v1, t.v2) k = v := he
  obtain ⟨N, n1, n2, n3, n4, n5⟩ := h.orb_end hT hx hk
  dsimp only at n2 n4 n5
  rw [e] at n2 n4 n5
  rw [rnd_is hr n1 n3 n4 n5, n2]
 ·have hvl : v < n := by
   have := (List.getElem?_eq_some_iff.1 ha).1
   omega
  obtain ⟨y, hy, hya, hyh⟩ := hat v hvl
  rw [hya] at ha
  obtain rfl := Option.some.inj ha
  obtain ⟨k, hk, hkv⟩ := has3_tv.1 hyh
  have hp := hpos hy hk
  rw [hkv] at hp
  obtain ⟨t, ht, _⟩ := h.get hy
  refine ⟨by omega, by have := (List.getElem?_eq_some_iff.1 ht).1; omega, fun _ => ⟨t, by rw [Int.toNat_natCast]; exact ht, ?_⟩⟩
  have := h.plc hT hy ht hk
  rw [hkv] at this
  rw [this]
  exact Int.natCast_nonneg k
 ·obtain ⟨v, hv, hg⟩ := hT.gh
  obtain ⟨x, hx, rfl⟩ := List.mem_map.1 hv
  obtain ⟨k, hk, hkv⟩ := has3_tv.1 hg
  have hp := hpos hx hk
  rw [hkv] at hp
  exact hp
end
end Go.Proofs.Ytbanlhlggkdanaa
namespace Go.Proofs.Ytbanlhlggkdanaa
open Go.RowKit
theorem TG.perm {n : Nat} {T T' : List T3} (h : TG n T) (hp : T.Perm T') : TG n T' where
 ds := fun v hv => h.ds v (hp.mem_iff.2 hv)
 nd := (hp.flatMap_right eds).nodup_iff.1 h.nd
 rv := fun v hv k hk => by
  obtain ⟨w, hw, q⟩ := h.rv v (hp.mem_iff.2 hv) k hk
  exact ⟨w, hp.mem_iff.1 hw, q⟩
 ok := fun v hv => h.ok v (hp.mem_iff.2 hv)
 st := fun v hv k hk => by
  obtain ⟨ws, h1, h2, h3, h4⟩ := h.st v (hp.mem_iff.2 hv) k hk
  refine ⟨ws, h1, h2, ?_, fun u hu => h4 u (hp.mem_iff.2 hu)⟩
  rw [← h3]
  exact (sum_perm _ hp).symm
 al := fun p q => by
  obtain ⟨v, hv, e⟩ := h.al p q
  exact ⟨v, hp.mem_iff.1 hv, e⟩
 gh := by
  obtain ⟨v, hv, e⟩ := h.gh
  exact ⟨v, hp.mem_iff.1 hv, e⟩
theorem in3' {k : Nat} (h : k < 3) : k ∈ [0, 1, 2] := by
 match k, h with
 | 0, _ => exact .head _
 | 1, _ => exact .tail _ (.head _)
 | 2, _ => exact .tail _ (.tail _ (.head _))
theorem lt3 {k : Nat} (h : k ∈ [0, 1, 2]) : k < 3 := by
 simp at h; omega
def openE (T : List T3) : List (Int × Int) := let E := T.flatMap eds; E.filter fun e => !(E.any fun e' => decide (e' = rev2 e))
def ghs (E : List (Int × Int)) : List T3 := E.map fun e => (e.2, e.1, -1)
def gAll (W H : Nat) (f : Nat → Bool) : List T3 := gTris W H f ++ ghs (openE (gTris W H f))
end Go.Proofs.Ytbanlhlggkdanaa
namespace Go.Proofs.Ytbanlhlggkdanaa
open Go.RowKit
theorem rnd3 {tris : List Tr} {v x y z : Int} {m : Nat} (h : RndOk tris v x m) (h1 : nxt tris v x = y) (h2 : nxt tris v y = z) (h3 : nxt tris v z = x) (n1 : y ≠ x) (n2 : z ≠ x) (hl : 3 ≤ tris.length) : m = 3 := by
 refine rnd_is h (by decide) hl ?_ ?_
 ·show nxt tris v (nxt tris v (nxt tris v x)) = x
  rw [h1, h2, h3]
 ·intro j h0 hj
  have : j = 1 ∨ j = 2 := by omega
  rcases this with rfl | rfl
  ·show nxt tris v x ≠ x
   rw [h1]; exact n1
  ·show nxt tris v (nxt tris v x) ≠ x
   rw [h1, h2]; exact n2
theorem setAt_at {l : List Int} {v n : Int} {p : Nat} (h1 : p < l.length) : (setAt l v n)[p]? = if v = p then some n else l[p]? := by
 unfold setAt
 split
 ·rw [List.getElem?_set]
  by_cases q : v = p
  ·subst q; rw [if_pos rfl, if_pos (by simp), if_pos (by simpa using h1)]
  ·rw [if_neg (by omega), if_neg q]
 ·rw [if_neg (by omega)]
section
variable {pts : List (Int × Int)} {a b c : Nat}
theorem new_ats (pts : List (Int × Int)) (a b c : Int) : (newM pts a b c).ats = setAt (setAt (setAt (setAt (setAt (setAt (setAt (setAt (setAt (setAt (setAt (setAt (List.replicate pts.length (-1)) a 0) b 0) c 0) c 1) b 1) (-1) 1) a 2) c 2) (-1) 2) b 3) a 3) (-1) 3 := rfl
theorem new_at (h1 : a ≠ b) (h2 : b ≠ c) (h3 : c ≠ a) {v : Nat} (hv : v < pts.length) : (newM pts a b c).ats[v]? = some (if v = a then 3 else if v = b then 3 else if v = c then 2 else -1) := by
 rw [new_ats]
 iterate 12 rw [setAt_at (by simp only [setAt_len, List.length_replicate]; exact hv)]
 rw [List.getElem?_replicate, if_pos hv]
 by_cases e1 : v = a
 ·rw [if_pos e1, if_neg (by omega), if_pos (by omega)]
 ·rw [if_neg e1, if_neg (by omega), if_neg (by omega)]
  by_cases e2 : v = b
  ·rw [if_pos e2, if_pos (by omega)]
  ·rw [if_neg e2, if_neg (by omega), if_neg (by omega)]
   by_cases e3 : v = c
   ·rw [if_pos e3, if_pos (by omega)]
   ·rw [if_neg e3]
    (repeat' split) <;> first | rfl | omega
theorem new_len (pts : List (Int × Int)) (a b c : Int) : (newM pts a b c).ats.length = pts.length := by
 rw [new_ats]
 simp only [setAt_len, List.length_replicate]
theorem new_st (hA : 0 < pA pts a b c) (hs : sndP pts (triNew a b c)) : StOk (triNew a b c) (newM pts a b c).ats := by
 obtain ⟨h1, h2, h3⟩ := pA_ne hA
 obtain ⟨⟨a1, a2, a3⟩, ⟨b1, b2, b3⟩, ⟨c1, c2, c3⟩, ⟨g1, g2, g3⟩⟩ := new_nxt h1 h2 h3
 have hl : 3 ≤ (triNew a b c).length := show 3 ≤ 4 by decide
 have hA : cntA (a : Int) (triNew a b c) = 3 := by rw [new_cnt h1 h2 h3, if_pos (.inl rfl)]
 have hB : cntA (b : Int) (triNew a b c) = 3 := by rw [new_cnt h1 h2 h3, if_pos (.inr (.inl rfl))]
 have hC : cntA (c : Int) (triNew a b c) = 3 := by rw [new_cnt h1 h2 h3, if_pos (.inr (.inr (.inl rfl)))]
 have hG : cntA (-1 : Int) (triNew a b c) = 3 := by rw [new_cnt h1 h2 h3, if_pos (.inr (.inr (.inr rfl)))]
 refine ⟨snd_cl hs, fun v n k t m hv hn hk he hr => ?_, fun v x hx => ?_, by rw [hG]; decide⟩
 ·rcases new_mem hn with ⟨rfl, rfl⟩ | ⟨rfl, rfl⟩ | ⟨rfl, rfl⟩ | ⟨rfl, rfl⟩
  ·match k, hk with
   | 0, _ => obtain rfl : (a : Int) = v := he; rw [hA, rnd3 hr a1 a2 a3 (by decide) (by decide) hl]; rfl
   | 1, _ => obtain rfl : (b : Int) = v := he; rw [hB, rnd3 hr b1 b2 b3 (by decide) (by decide) hl]; rfl
   | 2, _ => obtain rfl : (c : Int) = v := he; rw [hC, rnd3 hr c1 c2 c3 (by decide) (by decide) hl]; rfl
  ·match k, hk with
   | 0, _ => obtain rfl : (c : Int) = v := he; rw [hC, rnd3 hr c2 c3 c1 (by decide) (by decide) hl]; rfl
   | 1, _ => obtain rfl : (b : Int) = v := he; rw [hB, rnd3 hr b3 b1 b2 (by decide) (by decide) hl]; rfl
   | 2, _ => obtain rfl : (-1 : Int) = v := he; rw [hG, rnd3 hr g1 g2 g3 (by decide) (by decide) hl]; rfl
  ·match k, hk with
   | 0, _ => obtain rfl : (a : Int) = v := he; rw [hA, rnd3 hr a2 a3 a1 (by decide) (by decide) hl]; rfl
   | 1, _ => obtain rfl : (c : Int) = v := he; rw [hC, rnd3 hr c3 c1 c2 (by decide) (by decide) hl]; rfl
   | 2, _ => obtain rfl : (-1 : Int) = v := he; rw [hG, rnd3 hr g3 g1 g2 (by decide) (by decide) hl]; rfl
  ·match k, hk with
   | 0, _ => obtain rfl : (b : Int) = v := he; rw [hB, rnd3 hr b2 b3 b1 (by decide) (by decide) hl]; rfl
   | 1, _ => obtain rfl : (a : Int) = v := he; rw [hA, rnd3 hr a3 a1 a2 (by decide) (by decide) hl]; rfl
   | 2, _ => obtain rfl : (-1 : Int) = v := he; rw [hG, rnd3 hr g2 g3 g1 (by decide) (by decide) hl]; rfl
 ·have hvl : v < pts.length := by
   have := (List.getElem?_eq_some_iff.1 hx).1
   rw [new_len] at this
   exact this
  rw [new_at h1 h2 h3 hvl] at hx
  have hx := (Option.some.inj hx).symm
  rw [new_cnt h1 h2 h3]
  by_cases e1 : v = a
  ·rw [if_pos e1] at hx
   subst hx; subst e1
   refine ⟨?_, show _ < ((4 : Nat) : Int) by decide, fun _ => ⟨_, rfl, ?_⟩⟩
   ·rw [if_pos (.inl rfl)]; decide
   ·rw [plc_eq]; dsimp only; (repeat' split) <;> omega
  ·rw [if_neg e1] at hx
   by_cases e2 : v = b
   ·rw [if_pos e2] at hx
    subst hx; subst e2
    refine ⟨?_, show _ < ((4 : Nat) : Int) by decide, fun _ => ⟨_, rfl, ?_⟩⟩
    ·rw [if_pos (.inr (.inl rfl))]; decide
    ·rw [plc_eq]; dsimp only; (repeat' split) <;> omega
   ·rw [if_neg e2] at hx
    by_cases e3 : v = c
    ·rw [if_pos e3] at hx
     subst hx; subst e3
     refine ⟨?_, show _ < ((4 : Nat) : Int) by decide, fun _ => ⟨_, rfl, ?_⟩⟩
     ·rw [if_pos (.inr (.inr (.inl rfl)))]; decide
     ·rw [plc_eq]; dsimp only; (repeat' split) <;> omega
    ·rw [if_neg e3] at hx
     subst hx
     refine ⟨?_, show _ < ((4 : Nat) : Int) by decide, fun q => absurd q (by decide)⟩
     rw [if_neg (by omega)]
     decide
end
theorem A2_cyc (a1 a2 b1 b2 c1 c2 : Int) : A2 b1 b2 c1 c2 a1 a2 = A2 a1 a2 b1 b2 c1 c2 := by
 unfold A2 det
 grind
theorem A2_self (a1 a2 b1 b2 : Int) : A2 a1 a2 a1 a2 b1 b2 = 0 ∧ A2 a1 a2 b1 b2 a1 a2 = 0 ∧ A2 b1 b2 a1 a2 a1 a2 = 0 := by
 unfold A2 det
 refine ⟨?_, ?_, ?_⟩ <;> grind
section
variable {pts : List (Int × Int)} {a b c : Nat}
theorem new_hull (h1 : a ≠ b) (h2 : b ≠ c) (h3 : c ≠ a) (ha : a < pts.length) (hb : b < pts.length) (hc : c < pts.length) : ∃ x y z : Nat, hullOf (triNew a b c) (pts.length : Nat) = [(x : Int), (y : Int), (z : Int)] ∧ (x = a ∧ y = b ∧ z = c ∨ x = b ∧ y = c ∧ z = a ∨ x = c ∧ y = a ∧ z = b) ∧ x = min a (min b c) := by
 have e1 : ¬ (b : Int) = a := by omega
 have e2 : ¬ (c : Int) = b := by omega
 have e3 : ¬ (a : Int) = c := by omega
 have e4 : ¬ (a : Int) = b := by omega
 have e5 : ¬ (b : Int) = c := by omega
 have e6 : ¬ (c : Int) = a := by omega
 have hr : reals (triNew a b c) = [(0, ⟨a, b, c, 1, 2, 3, false, false, false⟩)] := by simp [reals, triNew, realsF, Tr.real]
 have i1 : ¬ isReal (triNew a b c) 1 := by rintro ⟨_, t, ht, hr⟩; simp [triNew] at ht; subst ht; simp [Tr.real] at hr
 have i2 : ¬ isReal (triNew a b c) 2 := by rintro ⟨_, t, ht, hr⟩; simp [triNew] at ht; subst ht; simp [Tr.real] at hr
 have i3 : ¬ isReal (triNew a b c) 3 := by rintro ⟨_, t, ht, hr⟩; simp [triNew] at ht; subst ht; simp [Tr.real] at hr
 have hM : hullM (triNew a b c) (pts.length : Nat) = ([((b : Int), (c : Int), 0), ((c : Int), (a : Int), 1), ((a : Int), (b : Int), 2)], 3, min (min (min (pts.length : Int) b) c) a) := by
  unfold hullM
  rw [hr]
  simp [hullT, hullE, Tr.n, Tr.v, at3, i1, i2, i3, mput, mclk, mfind, e2, e3, e4, e5, e6, e1]
 have hW : hullOf (triNew a b c) (pts.length : Nat) = [itN [((b : Int), (c : Int), 0), ((c : Int), (a : Int), 1), ((a : Int), (b : Int), 2)] 0 (min (min (min (pts.length : Int) b) c) a), itN [((b : Int), (c : Int), 0), ((c : Int), (a : Int), 1), ((a : Int), (b : Int), 2)] 1 (min (min (min (pts.length : Int) b) c) a), itN [((b : Int), (c : Int), 0), ((c : Int), (a : Int), 1), ((a : Int), (b : Int), 2)] 2 (min (min (min (pts.length : Int) b) c) a)] := by
  unfold hullOf
  rw [hM]
  rfl
 have ga : mget (a : Int) [((b : Int), (c : Int), 0), ((c : Int), (a : Int), 1), ((a : Int), (b : Int), 2)] = some (b : Int) := by rw [mget_cons, if_neg e4, mget_cons, if_neg e3, mget_cons, if_pos rfl]
 have gb : mget (b : Int) [((b : Int), (c : Int), 0), ((c : Int), (a : Int), 1), ((a : Int), (b : Int), 2)] = some (c : Int) := by rw [mget_cons, if_pos rfl]
 have gc : mget (c : Int) [((b : Int), (c : Int), 0), ((c : Int), (a : Int), 1), ((a : Int), (b : Int), 2)] = some (a : Int) := by rw [mget_cons, if_neg e2, mget_cons, if_pos rfl]
 rw [hW]
 generalize [((b : Int), (c : Int), 0), ((c : Int), (a : Int), 1), ((a : Int), (b : Int), 2)] = L at *
 have hmin : min (min (min (pts.length : Int) b) c) a = ((min a (min b c) : Nat) : Int) := by omega
 rw [hmin]
 have hcase : min a (min b c) = a ∨ min a (min b c) = b ∨ min a (min b c) = c := by omega
 rcases hcase with q | q | q <;> rw [q]
 ·refine ⟨a, b, c, ?_, .inl ⟨rfl, rfl, rfl⟩, rfl⟩
  simp [itN, ga, gb]
 ·refine ⟨b, c, a, ?_, .inr (.inl ⟨rfl, rfl, rfl⟩), rfl⟩
  simp [itN, gb, gc]
 ·refine ⟨c, a, b, ?_, .inr (.inr ⟨rfl, rfl, rfl⟩), rfl⟩
  simp [itN, gc, ga]
theorem new_ar (ha : a < pts.length) (hb : b < pts.length) (hc : c < pts.length) (hA : 0 < pA pts a b c) : ArOk pts (triNew a b c) := by
 obtain ⟨h1, h2, h3⟩ := pA_ne hA
 obtain ⟨x, y, z, hh, hx, _⟩ := new_hull h1 h2 h3 ha hb hc
 have hr : reals (triNew a b c) = [(0, ⟨a, b, c, 1, 2, 3, false, false, false⟩)] := by simp [reals, triNew, realsF, Tr.real]
 have hS : A2p pts x y z = A2p pts a b c := by
  rcases hx with ⟨rfl, rfl, rfl⟩ | ⟨rfl, rfl, rfl⟩ | ⟨rfl, rfl, rfl⟩
  ·rfl
  ·exact A2_cyc ..
  ·exact (A2_cyc ..).symm
 have hA' : 0 < A2p pts x y z := by rw [hS]; exact hA
 have hA2 : 0 < A2p pts y z x := by
  rw [show A2p pts y z x = A2p pts x y z from A2_cyc ..]; exact hA'
 have hA3 : 0 < A2p pts z x y := by
  rw [show A2p pts z x y = A2p pts y z x from A2_cyc ..]; exact hA2
 have s1 : ∀ u v : Int, A2p pts u u v = 0 := fun u v => (A2_self ..).1
 have s2 : ∀ u v : Int, A2p pts u v u = 0 := fun u v => (A2_self ..).2.1
 have s3 : ∀ u v : Int, A2p pts v u u = 0 := fun u v => (A2_self ..).2.2
 refine ⟨?_, ?_, ?_⟩ <;> rw [hh]
 ·intro v hv
  simp only [List.mem_cons, List.not_mem_nil, or_false] at hv
  omega
 ·intro i p q r hp hq hr'
  simp only [List.mem_cons, List.not_mem_nil, or_false] at hr'
  have hi : i < 3 := (List.getElem?_eq_some_iff.1 hp).1
  match i, hi with
  | 0, _ =>
   obtain rfl : (x : Int) = p := Option.some.inj hp
   obtain rfl : (y : Int) = q := Option.some.inj hq
   rcases hr' with rfl | rfl | rfl
   ·rw [s2]; exact Int.le_refl _
   ·rw [s3]; exact Int.le_refl _
   ·omega
  | 1, _ =>
   obtain rfl : (y : Int) = p := Option.some.inj hp
   obtain rfl : (z : Int) = q := Option.some.inj hq
   rcases hr' with rfl | rfl | rfl
   ·omega
   ·rw [s2]; exact Int.le_refl _
   ·rw [s3]; exact Int.le_refl _
  | 2, _ =>
   obtain rfl : (z : Int) = p := Option.some.inj hp
   obtain rfl : (x : Int) = q := by simpa using hq
   rcases hr' with rfl | rfl | rfl
   ·rw [s3]; exact Int.le_refl _
   ·omega
   ·rw [s2]; exact Int.le_refl _
 ·rw [hr]
  have e : outA pts [(x : Int), (y : Int), (z : Int)] 3 = A2p pts x x y + A2p pts x y z + A2p pts x z x := by
   rw [outA_succ, outA_succ, outA_succ, show outA pts [(x : Int), (y : Int), (z : Int)] 0 = 0 from rfl, Int.zero_add]
   have q0 : outT pts [(x : Int), (y : Int), (z : Int)] 0 = A2p pts x x y := rfl
   have q1 : outT pts [(x : Int), (y : Int), (z : Int)] 1 = A2p pts x y z := rfl
   have q2 : outT pts [(x : Int), (y : Int), (z : Int)] 2 = A2p pts x z x := by
    unfold outT
    rw [show (2 + 1) % [(x : Int), (y : Int), (z : Int)].length = 0 from by simp]
    rfl
   rw [q0, q1, q2]
  show sumA pts _ = outA pts [(x : Int), (y : Int), (z : Int)] 3
  rw [e, s1, s2, hS]
  simp [sumA]
end
end Go.Proofs.Ytbanlhlggkdanaa
namespace Go.Proofs.Ytbanlhlggkdanaa
open Go.RowKit
theorem mem_openE {T : List T3} {e : Int × Int} : e ∈ openE T ↔ e ∈ T.flatMap eds ∧ ¬ rev2 e ∈ T.flatMap eds := by
 unfold openE
 dsimp only
 rw [List.mem_filter]
 constructor
 ·rintro ⟨h1, h2⟩
  refine ⟨h1, fun q => ?_⟩
  rw [Bool.not_eq_true', List.any_eq_false] at h2
  exact h2 _ q (by simp)
 ·rintro ⟨h1, h2⟩
  refine ⟨h1, ?_⟩
  rw [Bool.not_eq_true', List.any_eq_false]
  intro e' he' q
  rw [of_decide_eq_true q] at he'
  exact h2 he'
structure GM (F : MapI) (W H : Nat) (f : Nat → Bool) (M : MD) (V : List (Nat × T3)) : Prop where
 lm : LM F M.tris V
 tg : TG (gPts W H).length (V.map (·.2))
 mw : ∀ v, v ∈ V.map (·.2) → madeV (gPts W H) v = true
 pts : M.pts = gPts W H
 ats : M.ats.length = (gPts W H).length
 at_ : ∀ p : Nat, p < (gPts W H).length → ∃ y, y ∈ V ∧ M.ats[p]? = some (y.1 : Int) ∧ has3 p y.2
 len : M.tris.length ≤ 100
 pm : (V.map (·.2)).Perm (gAll W H f)
 fr : ∀ k, k ∈ M.free → 0 ≤ k ∧ k < M.tris.length
 fn : M.free.Nodup
 gn : ∀ k, k ∈ M.free → vw M.tris k.toNat = some (-2, -2, -2)
 al : ∀ q v, vw M.tris q = some v → (q : Int) ∈ M.free ∨ (q, v) ∈ V
 nf : ∀ x, x ∈ V → ¬ (x.1 : Int) ∈ M.free
theorem GM.snd {F : MapI} {W H : Nat} {f : Nat → Bool} {M : MD} {V : List (Nat × T3)} (h : GM F W H f M V) : sndP M.pts M.tris := by
 rw [h.pts]
 exact h.lm.snd h.tg h.mw
theorem GM.st {F : MapI} {W H : Nat} {f : Nat → Bool} {M : MD} {V : List (Nat × T3)} (h : GM F W H f M V) : StOk M.tris M.ats := h.lm.st h.tg h.snd h.ats h.at_
end Go.Proofs.Ytbanlhlggkdanaa
namespace Go.Proofs.Ytbanlhlggkdanaa
open Go.RowKit
theorem ent_29 : Enter Try.prog 29 = true := by kernel_rfl
def pla (tris : List Tr) (v x : Int) : Nat := match tris[x.toNat]? with
 | some t => (plc t v).toNat
 | none => 0
def arAt (tris : List Tr) (v fr : Int) (j : Nat) : Int × Nat := (itr tris v j fr, pla tris v (itr tris v j fr))
def arL (tris : List Tr) (v fr : Int) (N : Nat) : List (Int × Nat) := (List.range N).map (arAt tris v fr)
structure ArH (tris : List Tr) (ats : List Int) (v fr : Int) (N : Nat) : Prop where
 v0 : 0 ≤ v
 at_ : ats[v.toNat]? = some fr
 n1 : 1 ≤ N
 n2 : N ≤ tris.length
 cl : ∀ j, 0 ≤ itr tris v j fr ∧ ∃ (t : Tr) (p : Nat), tris[(itr tris v j fr).toNat]? = some t ∧ plc t v = p ∧ p < 3
 en : itr tris v N fr = fr
 no : ∀ j, 0 < j → j < N → itr tris v j fr ≠ fr
set_option maxRecDepth 100000 in
set_option maxHeartbeats 1000000 in
theorem at9_c {B : Nat} {h : Mh} {pts : List (Int × Int)} {tris : List Tr} {ats : List Int} {v a : Int} (hna : h.na = ats.length) (hal : ats.length ≤ 1000000) (h0 : 0 ≤ v) (ha : ats[v.toNat]? = some a) : Tri Try.prog 29 [.pointer (some ⟨B, 0, none⟩), .int .i64 v] [] (atFs B h pts tris ats) (Ret0 (.int .i64 a)) := by
 refine Tri_of (N := 12) Try.func29 rfl ent_29 rfl rfl ?_
 intro w0 S0 T0
 show CJ _ _ _ [(0, _), (1, _)] _ _
 have hvl := (List.getElem?_eq_some_iff.1 ha).1
 refine CJ_seq ?_
 refine CJ_reg ?_
 refine LJ_y rfl rfl (YJ_assign rfl) ?_
 refine LJ_nil ?_
 refine QJ_then ?_
 refine CJ_seq ?_
 refine CJ_reg ?_
 refine LJ_y rfl rfl (YJ_move rfl) ?_
 refine LJ_y rfl rfl (YJ_nilCheck rfl) ?_
 refine LJ_y rfl rfl (YJ_fieldOwn rfl fld_57_3 rfl) ?_
 refine LJ_y rfl rfl (YJ_loadFactP (A := some ⟨B, 0, none⟩) (j := 3) rfl rfl tyi_55 m0 rfl) ?_
 refine LJ_val (v := .slice h.A ats.length h.ca) (by rw [hna]) ?_
 refine LJ_y rfl rfl (YJ_move rfl) ?_
 refine LJ_y rfl rfl (YJ_ixFact (n' := ats.length) rfl rfl elt_55 m3 (by decide) (by omega) (by omega) (by omega)) ?_
 refine LJ_y rfl rfl (YJ_loadFactP (A := h.A) (j := v.toNat) (v := .int .i64 a) rfl (congrArg _ (by omega)) tyi_3 m3 (by rw [Iv, List.getElem?_map, ha]; rfl)) ?_
 refine LJ_y rfl rfl (YJ_assign rfl) ?_
 refine LJ_nil ?_
 refine QJ_then ?_
 refine CJ_ret ?_
 refine QJ_fin (.inl rfl) (μ' := []) (μr := _) (φ' := []) (res_tmp rfl rfl) (List.Perm.refl _) (fun _ h => nomatch h) ?_
 exact ⟨rfl, rfl, rfl⟩
end Go.Proofs.Ytbanlhlggkdanaa
namespace Go.Proofs.Ytbanlhlggkdanaa
open Go.RowKit
theorem zer_4 : zer Try.prog 4 = some (.bool false) := by kernel_rfl
def isE (t : Tr) (k : Nat) (a b : Int) : Prop := t.v ((k + 1) % 3) = a ∧ t.v ((k + 2) % 3) = b
def FndOk (tris : List Tr) (ats : List Int) (a b : Int) (r : Int × Int × Bool) : Prop :=
 (r = (-1, 0, false) ∧ (max a b < 0 ∨ a = b ∨ ∃ fr N, ArH tris ats (max a b) fr N ∧ ∀ x, x ∈ arL tris (max a b) fr N → ∀ t, tris[x.1.toNat]? = some t → ∀ k, k < 3 → ¬ isE t k a b)) ∨
 ∃ (q : Int) (t : Tr) (k : Nat), 0 ≤ q ∧ tris[q.toNat]? = some t ∧ k < 3 ∧ isE t k a b ∧ r = (q, (k : Int), true)
end Go.Proofs.Ytbanlhlggkdanaa
namespace Go.Proofs.Ytbanlhlggkdanaa
open Go.RowKit
section
variable {F : MapI} {W H : Nat} {f : Nat → Bool} {M : MD} {V : List (Nat × T3)}
theorem GM.cover (h : GM F W H f M V) {v fr : Int} {N : Nat} (hA : ArH M.tris M.ats v fr N) {x : Nat × T3} (hx : x ∈ V) {k : Nat} (hk : k < 3) (he : tv x.2 k = v) : ((x.1 : Int), k) ∈ arL M.tris v fr N := by
 have hv0 := hA.v0
 have hvl := (List.getElem?_eq_some_iff.1 hA.at_).1
 rw [h.ats] at hvl
 obtain ⟨y, hy, hya, hyh⟩ := h.at_ v.toNat hvl
 rw [hA.at_] at hya
 obtain rfl := Option.some.inj hya
 rw [Int.toNat_of_nonneg hv0] at hyh
 obtain ⟨m, hm, hmv⟩ := has3_tv.1 hyh
 obtain ⟨ws, hn, h0, hcA, hl, i0, hil, hi0, ho, hall⟩ := h.lm.orbit h.tg hy hm
 obtain ⟨N', n1, n2, n3, n4, n5⟩ := h.lm.orb_end h.tg hy hm
 rw [hmv] at ho hall hcA n2 n4 n5
 have hNN : N = N' := by
  rcases Nat.lt_trichotomy N N' with q | q | q
  ·exact absurd hA.en (n5 N hA.n1 q)
  ·exact q
  ·exact absurd n4 (hA.no N' n1 q)
 have hwN : ws.length = N := by omega
 obtain ⟨i, hi, hiw⟩ := hall x hx k hk he
 have hj : ∃ j, j < N ∧ (i0 + j) % ws.length = i := by
  rcases Nat.lt_or_ge i i0 with q | q
  ·refine ⟨i + ws.length - i0, by omega, ?_⟩
   rw [show i0 + (i + ws.length - i0) = i + ws.length by omega, Nat.add_mod_right, Nat.mod_eq_of_lt hi]
  ·refine ⟨i - i0, by omega, ?_⟩
   rw [show i0 + (i - i0) = i by omega, Nat.mod_eq_of_lt hi]
 obtain ⟨j, hjN, hji⟩ := hj
 obtain ⟨z, hz, hzi, m', hm', hzm, hzw⟩ := ho j
 rw [hji, hiw] at hzw
 obtain ⟨rfl, rfl⟩ := h.lm.same hx hz hk hm' (he.trans hzm.symm) (Option.some.inj hzw)
 refine List.mem_map.2 ⟨j, List.mem_range.2 hjN, ?_⟩
 unfold arAt pla
 obtain ⟨t, ht, _⟩ := h.lm.get hx
 rw [hzi, Int.toNat_natCast, ht]
 dsimp only
 have := h.lm.plc h.tg hx ht hk
 rw [he] at this
 rw [this]
 rfl
def WnI (tris : List Tr) (a b : Int) (n k : Nat) (s : Int × Int) : Prop :=
 (s = (-1, 0) ∧ ∀ (q : Nat) (t : Tr) (m : Nat), tris[q]? = some t → m < 3 → (q < n ∨ q = n ∧ m < k) → ¬ isE t m a b) ∨
 ∃ (q : Nat) (t : Tr) (m : Nat), tris[q]? = some t ∧ m < 3 ∧ isE t m a b ∧ s = ((q : Int), (m : Int))
theorem WnI.hit {tris : List Tr} {a b : Int} {n k : Nat} {t : Tr} (ht : tris[n]? = some t) (hk : k < 3) (he : isE t k a b) : WnI tris a b n (k + 1) ((n : Int), (k : Int)) := .inr ⟨n, t, k, ht, hk, he, rfl⟩
theorem WnI.next {tris : List Tr} {a b : Int} {n : Nat} {s : Int × Int} (h : WnI tris a b n 3 s) : WnI tris a b (n + 1) 0 s := by
 rcases h with ⟨h1, h2⟩ | h
 ·refine .inl ⟨h1, fun q u m hu hm hq => h2 q u m hu hm ?_⟩
  rcases hq with hq | ⟨_, hq⟩
  ·rcases Nat.lt_succ_iff_lt_or_eq.1 hq with p | p
   ·exact .inl p
   ·exact .inr ⟨p, hm⟩
  ·omega
 ·exact .inr h
theorem GM.find (h : GM F W H f M V) {a b : Int} (ha : -1 ≤ a) (hb : -1 ≤ b) {s : Int × Int} {r : Int × Int × Bool} (hw : WnI M.tris a b M.tris.length 0 s) (hf : FndOk M.tris M.ats a b r) : r = (s.1, s.2, decide (0 ≤ s.1)) := by
 have live : ∀ {q : Nat} {t : Tr} {m : Nat}, M.tris[q]? = some t → m < 3 → isE t m a b → (q, (t.v0, t.v1, t.v2)) ∈ V := by
  intro q t m ht hm he
  refine h.lm.of ht (fun h0 => ?_)
  obtain ⟨g1, g2⟩ := h.lm.gone h.tg t (List.mem_of_getElem? ht) h0
  have : t.v ((m + 1) % 3) = -2 := by
   have hm1 := Nat.mod_lt (m + 1) (by decide : 0 < 3)
   generalize (m + 1) % 3 = j at *
   match j, hm1 with
   | 0, _ => exact h0
   | 1, _ => exact g1
   | 2, _ => exact g2
  have := he.1
  omega
 have edge : ∀ {q : Nat} {t : Tr} {m : Nat}, M.tris[q]? = some t → m < 3 → isE t m a b → kv (t.v0, t.v1, t.v2) m = (a, b) := fun _ _ he => Prod.ext he.1 he.2
 have one : ∀ {q : Nat} {t : Tr} {m : Nat}, M.tris[q]? = some t → m < 3 → isE t m a b → ∀ {q' : Nat} {t' : Tr} {m' : Nat}, M.tris[q']? = some t' → m' < 3 → isE t' m' a b → q = q' ∧ m = m' := by
  intro q t m ht hm he q' t' m' ht' hm' he'
  obtain ⟨e1, e2⟩ := h.lm.un _ (live ht hm he) m hm _ (live ht' hm' he') m' hm' ((edge ht hm he).trans (edge ht' hm' he').symm)
  exact ⟨congrArg Prod.fst e1, e2⟩
 rcases hf with ⟨rfl, hno⟩ | ⟨q, t, k, hq0, ht, hk, he, rfl⟩
 ·rcases hw with ⟨rfl, _⟩ | ⟨q, t, m, ht, hm, he, rfl⟩
  ·rfl
  ·exfalso
   have hx := live ht hm he
   have hd := h.tg.ds _ (List.mem_map.2 ⟨_, hx, rfl⟩)
   have i1 := Nat.mod_lt (m + 1) (by decide : 0 < 3)
   have i2 := Nat.mod_lt (m + 2) (by decide : 0 < 3)
   have hne : (m + 1) % 3 ≠ (m + 2) % 3 := by omega
   have ea : tv (t.v0, t.v1, t.v2) ((m + 1) % 3) = a := he.1
   have eb : tv (t.v0, t.v1, t.v2) ((m + 2) % 3) = b := he.2
   have hab : a ≠ b := fun p => hne (tv_inj hd i1 i2 (ea.trans (p.trans eb.symm)))
   rcases hno with p | p | ⟨fr, N, hA, hall⟩
   ·omega
   ·exact hab p
   ·have : ∃ j, j < 3 ∧ tv (t.v0, t.v1, t.v2) j = max a b := by
     rcases (show max a b = a ∨ max a b = b by omega) with p | p
     ·exact ⟨_, i1, ea.trans p.symm⟩
     ·exact ⟨_, i2, eb.trans p.symm⟩
    obtain ⟨j, hj, hje⟩ := this
    have := h.cover hA hx hj hje
    exact hall _ this t (by simpa using ht) m hm he
 ·have ht' : M.tris[q.toNat]? = some t := ht
  rcases hw with ⟨rfl, hno⟩ | ⟨q', t', m, ht2, hm, he2, rfl⟩
  ·exact absurd he (hno q.toNat t k ht' hk (.inl (List.getElem?_eq_some_iff.1 ht').1))
  ·obtain ⟨e1, e2⟩ := one ht' hk he ht2 hm he2
   subst e2
   rw [← e1]
   dsimp only
   rw [Int.toNat_of_nonneg hq0, decide_eq_true hq0]
end
end Go.Proofs.Ytbanlhlggkdanaa
namespace Go.Proofs.Ytbanlhlggkdanaa
open Go.RowKit
theorem ent_27 : Enter Try.prog 27 = true := by kernel_rfl
theorem frz_at {B : Nat} {M : MD} {h : Mh} {φ : List Res} : ∀ r, r ∈ atFs B h M.pts M.tris M.ats → r ∈ frzFs B M h ++ φ := fun r hr => List.mem_append_left _ (by
 simp only [frzFs, meshFs, atFs, List.mem_cons, List.not_mem_nil, or_false, List.mem_append] at *
 rcases hr with h | h | h | h
 ·exact .inl (.inl h)
 ·exact .inl (.inr (.inl h))
 ·exact .inl (.inr (.inr h))
 ·exact .inr (.inr h))
theorem vOk_of {n : Nat} {t : Tr} (h0 : t.v0 = -1 ∨ t.v0 = -2 ∨ (0 ≤ t.v0 ∧ t.v0 < n)) (h1 : t.v1 = -1 ∨ t.v1 = -2 ∨ (0 ≤ t.v1 ∧ t.v1 < n)) (h2 : t.v2 = -1 ∨ t.v2 = -2 ∨ (0 ≤ t.v2 ∧ t.v2 < n)) : vOk n t := fun k hk => match k, hk with
 | 0, _ => h0
 | 1, _ => h1
 | 2, _ => h2
theorem vOk_new {n a b c : Nat} (ha : a < n) (hb : b < n) (hc : c < n) : ∀ t, t ∈ triNew a b c → vOk n t := fun t ht => by
 simp only [triNew, List.mem_cons, List.not_mem_nil, or_false] at ht
 rcases ht with rfl | rfl | rfl | rfl <;> exact vOk_of (by dsimp only; omega) (by dsimp only; omega) (by dsimp only; omega)
theorem new_sound {B : Nat} {h : Mh} {pts : List (Int × Int)} {a b c : Nat} (hP : ∀ j, j < pts.length → P2 (pts.getD j (0, 0)).1 (pts.getD j (0, 0)).2) (hl : pts.length ≤ 1000000) (ha : a < pts.length) (hb : b < pts.length) (hc : c < pts.length) (hA : 0 < pA pts a b c) (hna : h.na = (newM pts a b c).ats.length) :
  Tri Try.prog 31 [.pointer (some ⟨B, 0, none⟩)] [] (atFs B h pts (triNew a b c) (newM pts a b c).ats) (Ret0 (.bool true)) :=
 sound_c hP (vOk_new ha hb hc) hna (show 4 ≤ 1000000 by decide) (by rw [new_len]; exact hl) (fun q => ⟨new_st hA q, new_ar ha hb hc hA⟩) ⟨fun _ => new_snd ha hb hc hA, fun _ => rfl⟩
abbrev fitQ : List (Int × Int) := [(0, 0), (1, 0), (0, 1)]
theorem fitQ_ok : ∀ j, j < fitQ.length → P2 (fitQ.getD j (0, 0)).1 (fitQ.getD j (0, 0)).2 := by
 intro j hj
 have : j = 0 ∨ j = 1 ∨ j = 2 := by simp at hj; omega
 rcases this with rfl | rfl | rfl <;> exact by unfold P2 Tm; simp
set_option maxRecDepth 100000 in
set_option maxHeartbeats 4000000 in
theorem fit9_c  : Tri Try.prog 27 [] [] [] (Ret0 (.bool true)) := by
 refine Tri_of (N := 48) Try.func27 rfl ent_27 rfl rfl ?_
 intro w0 S0 T0
 show CJ _ _ _ [] _ _
 refine CJ_seq ?_
 refine CJ_reg ?_
 refine LJ_y rfl rfl (YJ_assign rfl) ?_
 refine LJ_nil ?_
 refine QJ_then ?_
 refine CJ_seq ?_
 refine CJ_reg ?_
 refine LJ_y rfl rfl (YJ_build1 (cs := [_, _]) lay_23 rfl rfl rfl) ?_
 refine LJ_y rfl rfl (YJ_build1 (cs := [_, _]) lay_23 rfl rfl rfl) ?_
 refine LJ_y rfl rfl (YJ_build1 (cs := [_, _]) lay_23 rfl rfl rfl) ?_
 refine LJ_buildSliceN (vs := [_, _, _]) (cs := [_, _, _, _, _, _]) rfl rfl elt_26 zer_23 (by decide) (by decide) rfl rfl rfl rfl rfl ?_
 intro b1
 refine LJ_freeze ?_
 refine LJ_addF (r' := sliceR 2 (some ⟨b1, 0, none⟩) 3 (ptCells fitQ)) (.head _) (fun w S h => cellsR_slice (n := 3) rfl w S h) ?_
 refine LJ_callN rfl rfl rfl rfl rfl (new_pos (pts := fitQ) (a := 0) (b := 1) (c := 2) (by decide) (by decide) (by decide) (by decide) fitQ_ok (by decide)) (fun r h => by rw [List.mem_singleton] at h; subst h; exact .head _) ?_
 intro Bm _
 refine LJ_freezeMesh (fun hm hmF hmA => ?_)
 refine LJ_y rfl rfl (YJ_move rfl) ?_
 refine LJ_y rfl rfl (YJ_extract rfl rfl) ?_
 refine LJ_y rfl rfl (YJ_extract rfl rfl) ?_
 refine LJ_y rfl rfl (YJ_assign rfl) ?_
 refine LJ_y rfl rfl (YJ_assign rfl) ?_
 refine LJ_nil ?_
 refine QJ_then ?_
 refine CJ_seq ?_
 refine CJ_seq ?_
 refine CJ_reg ?_
 refine LJ_y rfl rfl (YJ_move rfl) ?_
 refine LJ_y rfl rfl (YJ_not rfl) ?_
 refine LJ_y rfl rfl (YJ_move rfl) ?_
 refine LJ_bool (c := false) rfl ?_
 refine LJ_y rfl rfl (YJ_move rfl) ?_
 refine LJ_y rfl rfl (YJ_eqs rfl rfl (fun w => eqs_ptr ..)) ?_
 refine LJ_y rfl rfl (YJ_pickF rfl rfl) ?_
 refine LJ_y rfl rfl (YJ_move rfl) ?_
 refine LJ_bool (c := false) rfl ?_
 refine LJ_y rfl rfl (YJ_move rfl) ?_
 refine LJ_y rfl rfl (YJ_nilCheck rfl) ?_
 refine LJ_y rfl rfl (YJ_fieldOwn rfl fld_57_1 rfl) ?_
 refine LJ_y rfl rfl (YJ_loadFactP (A := some ⟨Bm, 0, none⟩) (j := 1) rfl rfl tyi_54 m0 rfl) ?_
 refine LJ_y rfl rfl (YJ_len rfl ulen_54 rfl) ?_
 refine LJ_y rfl rfl (YJ_bin rfl rfl rfl) ?_
 refine LJ_val (v := .bool false) (by kernel_rfl) ?_
 refine LJ_y rfl rfl (YJ_pickF rfl rfl) ?_
 refine LJ_y rfl rfl (YJ_move rfl) ?_
 refine LJ_bool (c := false) rfl ?_
 refine LJ_y rfl rfl (YJ_move rfl) ?_
 refine LJ_call0 rfl rfl rfl rfl rfl (new_sound (h := hm) (pts := fitQ) (a := 0) (b := 1) (c := 2) fitQ_ok (by decide) (by decide) (by decide) (by decide) (by decide) hmA) (fun r h => frz_at r h) ?_
 refine LJ_y rfl rfl (YJ_not rfl) ?_
 refine LJ_y rfl rfl (YJ_pickF rfl rfl) ?_
 refine LJ_nil ?_
 refine QJ_then ?_
 refine CJ_condF rfl ?_
 refine CJ_skip ?_
 refine QJ_then ?_
 refine CJ_seq ?_
 refine CJ_reg ?_
 refine LJ_y rfl rfl (YJ_assign rfl) ?_
 refine LJ_nil ?_
 refine QJ_then ?_
 refine CJ_seq ?_
 refine CJ_seq ?_
 refine CJ_reg ?_
 refine LJ_y rfl rfl (YJ_move rfl) ?_
 refine LJ_y rfl rfl (YJ_nilCheck rfl) ?_
 refine LJ_y rfl rfl (YJ_fieldOwn rfl fld_57_1 rfl) ?_
 refine LJ_y rfl rfl (YJ_loadFactP (A := some ⟨Bm, 0, none⟩) (j := 1) rfl rfl tyi_54 m0 rfl) ?_
 refine LJ_y rfl rfl (YJ_len rfl ulen_54 rfl) ?_
 refine LJ_y rfl rfl (YJ_move rfl) ?_
 refine LJ_nil ?_
 refine QJ_then ?_
 refine CJ_block ?_
 refine CJ_loopN 5 ?_
 refine CN_succ ?_
 refine CJ_seq ?_
 refine CJ_reg ?_
 refine LJ_y rfl rfl (YJ_bin rfl rfl rfl) ?_
 refine LJ_nil ?_
 refine QJ_then ?_
 refine CJ_seq ?_
 refine CJ_condT rfl ?_
 refine CJ_skip ?_
 refine QJ_then ?_
 refine CJ_seq ?_
 refine CJ_block ?_
 refine CJ_seq ?_
 refine CJ_reg ?_
 refine LJ_y rfl rfl (YJ_move rfl) ?_
 refine LJ_y rfl rfl (YJ_assign rfl) ?_
 refine LJ_nil ?_
 refine QJ_then ?_
 refine CJ_seq ?_
 refine CJ_reg ?_
 refine LJ_y rfl rfl (YJ_move rfl) ?_
 refine LJ_y rfl rfl (YJ_move rfl) ?_
 refine LJ_call0 rfl rfl rfl rfl rfl (real_c (h := hm) (pts := fitQ) (tris := triNew 0 1 2)) (fun r h => frz_mesh r h) ?_
 refine LJ_val (v := .bool true) (congrArg Value.bool (by kernel_rfl)) ?_
 refine LJ_nil ?_
 refine QJ_then ?_
 refine CJ_condT rfl ?_
 refine CJ_reg ?_
 refine LJ_y rfl rfl (YJ_move rfl) ?_
 refine LJ_y rfl rfl (YJ_bin rfl rfl (iop_add (by omega))) ?_
 refine LJ_y rfl rfl (YJ_assign rfl) ?_
 refine LJ_nil ?_
 refine QJ_in_normal ?_
 refine QJ_then ?_
 refine CJ_reg ?_
 refine LJ_y rfl rfl (YJ_bin rfl rfl (iop_add (by omega))) ?_
 refine LJ_y rfl rfl (YJ_move rfl) ?_
 refine LJ_nil ?_
 refine QJ_thenN ?_
 refine CN_succ ?_
 refine CJ_seq ?_
 refine CJ_reg ?_
 refine LJ_y rfl rfl (YJ_bin rfl rfl rfl) ?_
 refine LJ_nil ?_
 refine QJ_then ?_
 refine CJ_seq ?_
 refine CJ_condT rfl ?_
 refine CJ_skip ?_
 refine QJ_then ?_
 refine CJ_seq ?_
 refine CJ_block ?_
 refine CJ_seq ?_
 refine CJ_reg ?_
 refine LJ_y rfl rfl (YJ_move rfl) ?_
 refine LJ_y rfl rfl (YJ_assign rfl) ?_
 refine LJ_nil ?_
 refine QJ_then ?_
 refine CJ_seq ?_
 refine CJ_reg ?_
 refine LJ_y rfl rfl (YJ_move rfl) ?_
 refine LJ_y rfl rfl (YJ_move rfl) ?_
 refine LJ_call0 rfl rfl rfl rfl rfl (real_c (h := hm) (pts := fitQ) (tris := triNew 0 1 2)) (fun r h => frz_mesh r h) ?_
 refine LJ_val (v := .bool false) (congrArg Value.bool (by kernel_rfl)) ?_
 refine LJ_nil ?_
 refine QJ_then ?_
 refine CJ_condF rfl ?_
 refine CJ_skip ?_
 refine QJ_in_normal ?_
 refine QJ_then ?_
 refine CJ_reg ?_
 refine LJ_y rfl rfl (YJ_bin rfl rfl (iop_add (by omega))) ?_
 refine LJ_y rfl rfl (YJ_move rfl) ?_
 refine LJ_nil ?_
 refine QJ_thenN ?_
 refine CN_succ ?_
 refine CJ_seq ?_
 refine CJ_reg ?_
 refine LJ_y rfl rfl (YJ_bin rfl rfl rfl) ?_
 refine LJ_nil ?_
 refine QJ_then ?_
 refine CJ_seq ?_
 refine CJ_condT rfl ?_
 refine CJ_skip ?_
 refine QJ_then ?_
 refine CJ_seq ?_
 refine CJ_block ?_
 refine CJ_seq ?_
 refine CJ_reg ?_
 refine LJ_y rfl rfl (YJ_move rfl) ?_
 refine LJ_y rfl rfl (YJ_assign rfl) ?_
 refine LJ_nil ?_
 refine QJ_then ?_
 refine CJ_seq ?_
 refine CJ_reg ?_
 refine LJ_y rfl rfl (YJ_move rfl) ?_
 refine LJ_y rfl rfl (YJ_move rfl) ?_
 refine LJ_call0 rfl rfl rfl rfl rfl (real_c (h := hm) (pts := fitQ) (tris := triNew 0 1 2)) (fun r h => frz_mesh r h) ?_
 refine LJ_val (v := .bool false) (congrArg Value.bool (by kernel_rfl)) ?_
 refine LJ_nil ?_
 refine QJ_then ?_
 refine CJ_condF rfl ?_
 refine CJ_skip ?_
 refine QJ_in_normal ?_
 refine QJ_then ?_
 refine CJ_reg ?_
 refine LJ_y rfl rfl (YJ_bin rfl rfl (iop_add (by omega))) ?_
 refine LJ_y rfl rfl (YJ_move rfl) ?_
 refine LJ_nil ?_
 refine QJ_thenN ?_
 refine CN_succ ?_
 refine CJ_seq ?_
 refine CJ_reg ?_
 refine LJ_y rfl rfl (YJ_bin rfl rfl rfl) ?_
 refine LJ_nil ?_
 refine QJ_then ?_
 refine CJ_seq ?_
 refine CJ_condT rfl ?_
 refine CJ_skip ?_
 refine QJ_then ?_
 refine CJ_seq ?_
 refine CJ_block ?_
 refine CJ_seq ?_
 refine CJ_reg ?_
 refine LJ_y rfl rfl (YJ_move rfl) ?_
 refine LJ_y rfl rfl (YJ_assign rfl) ?_
 refine LJ_nil ?_
 refine QJ_then ?_
 refine CJ_seq ?_
 refine CJ_reg ?_
 refine LJ_y rfl rfl (YJ_move rfl) ?_
 refine LJ_y rfl rfl (YJ_move rfl) ?_
 refine LJ_call0 rfl rfl rfl rfl rfl (real_c (h := hm) (pts := fitQ) (tris := triNew 0 1 2)) (fun r h => frz_mesh r h) ?_
 refine LJ_val (v := .bool false) (congrArg Value.bool (by kernel_rfl)) ?_
 refine LJ_nil ?_
 refine QJ_then ?_
 refine CJ_condF rfl ?_
 refine CJ_skip ?_
 refine QJ_in_normal ?_
 refine QJ_then ?_
 refine CJ_reg ?_
 refine LJ_y rfl rfl (YJ_bin rfl rfl (iop_add (by omega))) ?_
 refine LJ_y rfl rfl (YJ_move rfl) ?_
 refine LJ_nil ?_
 refine QJ_thenN ?_
 refine CN_succ ?_
 refine CJ_seq ?_
 refine CJ_reg ?_
 refine LJ_y rfl rfl (YJ_bin rfl rfl rfl) ?_
 refine LJ_nil ?_
 refine QJ_then ?_
 refine CJ_seq ?_
 refine CJ_condF rfl ?_
 refine CJ_exit ?_
 refine QJ_then_exit ?_
 refine QJ_then_exit ?_
 refine QJ_in_exit ?_
 refine QJ_then ?_
 refine CJ_seq ?_
 refine CJ_reg ?_
 refine LJ_y rfl rfl (YJ_move rfl) ?_
 refine LJ_y rfl rfl (YJ_bin rfl rfl rfl) ?_
 refine LJ_y rfl rfl (YJ_assign rfl) ?_
 refine LJ_nil ?_
 refine QJ_then ?_
 refine CJ_ret ?_
 refine QJ_fin (.inl rfl) (μ' := []) (μr := _) (φ' := []) (res_tmp rfl rfl) (List.Perm.refl _) (fun _ h => nomatch h) ?_
 exact ⟨congrArg Value.bool (by kernel_rfl), rfl, rfl⟩
end Go.Proofs.Ytbanlhlggkdanaa
set_option linter.unusedSectionVars false
namespace Go.Proofs.Ytbanlhlggkdanaa
open Go.RowKit
section
variable {E : Env} {Q : Qt} {σ : List (Nat × Value)} {μ φ ml pl : List Res} {ops : Array Oper} {rest : List Oper} {fuel : Nat} {listed : Array Bool} {ty : TypeId} {pos : String} {af : Array Edge} {gd : Option (Nat × Bool)} {d : Tmp}
end
end Go.Proofs.Ytbanlhlggkdanaa
namespace Go.Proofs.Ytbanlhlggkdanaa
open Go.RowKit
section
variable {E : Env} {Q : Qt} {σ : List (Nat × Value)} {μ φ : List Res} {cd : Code}
open Classical in
end
end Go.Proofs.Ytbanlhlggkdanaa
namespace Go.Proofs.Ytbanlhlggkdanaa
open Go.RowKit
theorem ent_28 : Enter Try.prog 28 = true := by kernel_rfl
section
variable {F : MapI} {W H : Nat} {f : Nat → Bool} {M : MD} {V : List (Nat × T3)}
end
set_option maxRecDepth 100000 in
set_option maxHeartbeats 1000000 in
theorem has_c {t : Tr} {v : Int} : Tri Try.prog 28 [.agg t.cells.toArray, .int .i64 v] [] [] (Ret0 (.int .i64 (plc t v))) := by
 refine Tri_of (N := 17) Try.func28 rfl ent_28 rfl rfl ?_
 intro w0 S0 T0
 show CJ _ _ _ [(0, _), (1, _)] _ _
 refine CJ_seq ?_
 refine CJ_reg ?_
 refine LJ_box (cs := #[_, _, _, _, _, _, _, _, _]) rfl rfl rfl rfl ?_
 intro b1
 refine LJ_y rfl rfl (YJ_assign rfl) ?_
 refine LJ_nil ?_
 refine QJ_then ?_
 refine CJ_seq ?_
 refine CJ_seq ?_
 refine CJ_reg ?_
 refine LJ_y rfl rfl (YJ_move rfl) ?_
 refine LJ_nil ?_
 refine QJ_then ?_
 refine CJ_block ?_
 refine CJ_loopF (F := fun (i : Nat) => ⟨[(1, .int .i64 v), (2, .pointer (some ⟨b1, 0, none⟩)), (6, .int .i64 (i : Nat))], [cellsR b1 #[.int .i64 t.v0, .int .i64 t.v1, .int .i64 t.v2, .int .i64 t.n0, .int .i64 t.n1, .int .i64 t.n2, .bool t.f0, .bool t.f1, .bool t.f2] 37], []⟩) (I := fun (i : Nat) => i ≤ 3 ∧ ∀ j, j < i → t.v j ≠ v) (m := fun (i : Nat) => 3 - i) 0 (μr := []) ⟨Nat.zero_le _, fun _ h => absurd h (Nat.not_lt_zero _)⟩ (And.intro rfl (And.intro rfl (And.intro rfl (trivial)))) (permI [] rfl) (fun _ h => nomatch h) ?_
 rintro k ⟨hk, hno⟩
 try dsimp only at hk
 try dsimp only at hno
 show CJ _ _ _ [(1, .int .i64 v), (2, .pointer (some ⟨b1, 0, none⟩)), (6, .int .i64 (k : Nat))] (cellsR b1 #[.int .i64 t.v0, .int .i64 t.v1, .int .i64 t.v2, .int .i64 t.n0, .int .i64 t.n1, .int .i64 t.n2, .bool t.f0, .bool t.f1, .bool t.f2] 37 :: _) _
 refine CJ_seq ?_
 refine CJ_reg ?_
 refine LJ_y rfl rfl (YJ_bin rfl rfl rfl) ?_
 refine LJ_nil ?_
 refine QJ_then ?_
 refine CJ_seq ?_
 refine CJ_cond rfl (fun h7 => ?_) (fun h7 => ?_)
 ·simp only [decide_eq_true_eq] at h7
  have hk3 : k < 3 := by omega
  refine CJ_skip ?_
  refine QJ_then ?_
  refine CJ_seq ?_
  refine CJ_block ?_
  refine CJ_seq ?_
  refine CJ_reg ?_
  refine LJ_y rfl rfl (YJ_move rfl) ?_
  refine LJ_y rfl rfl (YJ_assign rfl) ?_
  refine LJ_nil ?_
  refine QJ_then ?_
  refine CJ_seq ?_
  refine CJ_reg ?_
  refine LJ_y rfl rfl (YJ_move rfl) ?_
  refine LJ_y rfl rfl (YJ_fieldOwn rfl fld_37_0 rfl) ?_
  refine LJ_y rfl rfl (YJ_ixArr rfl rfl arrt_34 (by omega) (by omega) rfl) ?_
  refine LJ_y rfl rfl (YJ_load1 rfl tyi_3 m0 (v_get (t := t) hk3)) ?_
  refine LJ_y rfl rfl (YJ_move rfl) ?_
  refine LJ_y rfl rfl (YJ_bin rfl rfl rfl) ?_
  refine LJ_nil ?_
  refine QJ_then ?_
  refine CJ_cond rfl (fun h14 => ?_) (fun h14 => ?_)
  ·simp only [decide_eq_true_eq] at h14
   refine CJ_seq ?_
   refine CJ_reg ?_
   refine LJ_y rfl rfl (YJ_move rfl) ?_
   refine LJ_y rfl rfl (YJ_assign rfl) ?_
   refine LJ_nil ?_
   refine QJ_then ?_
   refine CJ_ret ?_
   refine QJ_in_ret ?_
   refine QJ_then_ret ?_
   refine QJ_then_ret ?_
   refine QJ_in_ret ?_
   refine QJ_then_ret ?_
   refine QJ_fin (.inl rfl) (μ' := []) (μr := _) (φ' := []) (res_tmp rfl rfl) (List.Perm.refl _) (fun _ h => nomatch h) ?_
   obtain ⟨p, hp, hp3, hpv⟩ := plc_has hk3 h14
   have e : p = k := by
    rcases Nat.lt_trichotomy p k with q | q | q
    ·exact absurd hpv (hno p q)
    ·exact q
    ·exfalso
     rw [plc_eq] at hp
     match k, hk3 with
     | 0, _ => rw [if_pos (show t.v0 = v from h14)] at hp; omega
     | 1, _ => rw [if_neg (show ¬ t.v0 = v from hno 0 (by decide)), if_pos (show t.v1 = v from h14)] at hp; omega
     | 2, _ => omega
   exact ⟨congrArg (Value.int .i64) (by rw [hp, e]), rfl, rfl⟩
  ·simp only [decide_eq_false_iff_not] at h14
   refine CJ_skip ?_
   refine QJ_in_normal ?_
   refine QJ_then ?_
   refine CJ_reg ?_
   refine LJ_y rfl rfl (YJ_bin rfl rfl (iop_add (by omega))) ?_
   refine LJ_y rfl rfl (YJ_move rfl) ?_
   refine LJ_nil ?_
   refine QJ_roundF (F := fun (i : Nat) => ⟨[(1, .int .i64 v), (2, .pointer (some ⟨b1, 0, none⟩)), (6, .int .i64 (i : Nat))], [cellsR b1 #[.int .i64 t.v0, .int .i64 t.v1, .int .i64 t.v2, .int .i64 t.n0, .int .i64 t.n1, .int .i64 t.n2, .bool t.f0, .bool t.f1, .bool t.f2] 37], []⟩) (I := fun (i : Nat) => i ≤ 3 ∧ ∀ j, j < i → t.v j ≠ v) (m := fun (i : Nat) => 3 - i) (i := k) (k + 1) (μd := []) ⟨by omega, fun j hj => (Nat.lt_succ_iff_lt_or_eq.1 hj).elim (hno j) (fun e => by rw [e]; exact h14)⟩ (by omega) (And.intro rfl (And.intro rfl (And.intro rfl (trivial)))) (permI [] rfl) (fun _ h => nomatch h) (fun _ h => h)
 ·simp only [decide_eq_false_iff_not] at h7
  have hk3 : 3 = k := by omega
  subst hk3
  refine CJ_exit ?_
  refine QJ_then_exit ?_
  refine QJ_then_exit ?_
  refine QJ_in_exit ?_
  refine QJ_then ?_
  refine CJ_seq ?_
  refine CJ_reg ?_
  refine LJ_y rfl rfl (YJ_assign rfl) ?_
  refine LJ_nil ?_
  refine QJ_then ?_
  refine CJ_ret ?_
  refine QJ_fin (.inl rfl) (μ' := []) (μr := _) (φ' := []) (res_tmp rfl rfl) (List.Perm.refl _) (fun _ h => nomatch h) ?_
  have e : plc t v = -1 := by rw [plc_eq, if_neg (show ¬ t.v0 = v from hno 0 (by decide)), if_neg (show ¬ t.v1 = v from hno 1 (by decide)), if_neg (show ¬ t.v2 = v from hno 2 (by decide))]
  exact ⟨congrArg (Value.int .i64) e.symm, rfl, rfl⟩
end Go.Proofs.Ytbanlhlggkdanaa
namespace Go.Proofs.Ytbanlhlggkdanaa
open Go.RowKit
section
variable {F : MapI} {W H : Nat} {f : Nat → Bool} {M : MD} {V : List (Nat × T3)}
end
end Go.Proofs.Ytbanlhlggkdanaa
namespace Go.Proofs.Ytbanlhlggkdanaa
open Go.RowKit
theorem realsF_lv : ∀ (l : List Tr) (k : Nat), (realsF k l).map (fun x => ((x.1, (x.2.v0, x.2.v1, x.2.v2)) : Nat × T3)) = (lvF k l).filter (fun x => decide (rv x.2))
 | [], _ => rfl
 | t :: l, k => by
  have ih := realsF_lv l (k + 1)
  rw [lvF_cons]
  unfold realsF
  by_cases hr : t.real
  ·have h0 : t.v0 ≠ -2 := by have := hr.1; omega
   rw [if_pos hr, if_neg h0, List.map_cons, List.filter_cons, if_pos (by simpa using (show rv (t.v0, t.v1, t.v2) from hr)), ih]
  ·rw [if_neg hr, ih]
   split
   ·rfl
   ·rw [List.filter_cons, if_neg (by simpa using (show ¬ rv (t.v0, t.v1, t.v2) from hr))]
def hEt (tris : List Tr) (t : Tr) : List (Int × Int) := ([0, 1, 2].filter fun k => !decide (isReal tris (t.n k))).map (edT t)
def nxE (E : List (Int × Int)) (a : Int) : Int := ((E.find? (fun e => decide (e.1 = a))).map (·.2)).getD 0
def itE (E : List (Int × Int)) : Nat → Int → Int
 | 0, v => v
 | k + 1, v => nxE E (itE E k v)
def minE (E : List (Int × Int)) (n0 : Int) : Int := (E.map (·.1)).foldl min n0
def hullV (E : List (Int × Int)) (n0 : Int) : List Int := (List.range E.length).map fun i => itE E i (minE E n0)
theorem sub_flat {α β : Type} (f : α → List β) {l l' : List α} (h : l.Sublist l') : (l.flatMap f).Sublist (l'.flatMap f) := by
 induction h with
 | slnil => exact List.Sublist.refl _
 | cons x _ ih => rw [List.flatMap_cons]; exact ih.trans (List.sublist_append_right _ _)
 | cons_cons x _ ih => rw [List.flatMap_cons, List.flatMap_cons]; exact List.Sublist.append (List.Sublist.refl _) ih
section
variable {F : MapI} {tris : List Tr} {V : List (Nat × T3)} {n : Nat} {pts : List (Int × Int)} {ats : List Int}
theorem LM.real_at (h : LM F tris V) {y : Nat × T3} (hy : y ∈ V) : isReal tris (y.1 : Int) ↔ rv y.2 := by
 obtain ⟨t, ht, hv⟩ := h.get hy
 rw [← hv]
 constructor
 ·rintro ⟨_, u, hu, hr⟩
  rw [Int.toNat_natCast, ht] at hu
  cases hu
  exact hr
 ·intro hr
  exact ⟨Int.natCast_nonneg _, t, by rw [Int.toNat_natCast]; exact ht, hr⟩
theorem LM.mem_real (h : LM F tris V) {q : Nat} {t : Tr} : (q, t) ∈ reals tris ↔ tris[q]? = some t ∧ (q, (t.v0, t.v1, t.v2)) ∈ V ∧ rv (t.v0, t.v1, t.v2) := by
 rw [reals_mem]
 constructor
 ·rintro ⟨h1, h2⟩
  exact ⟨h1, h.of h1 (by have := h2.1; omega), h2⟩
 ·rintro ⟨h1, _, h3⟩
  exact ⟨h1, h3⟩
theorem LM.hE (h : LM F tris V) (hT : TG n (V.map (·.2))) : ((reals tris).flatMap (fun x => hEt tris x.2)).Perm (openE ((V.map (·.2)).filter (fun v => decide (rv v)))) := by
 have hsub : ∀ {v k}, v ∈ (V.map (·.2)).filter (fun v => decide (rv v)) → k < 3 → kv v k ∈ ((V.map (·.2)).filter (fun v => decide (rv v))).flatMap eds := by
  intro v k hv hk
  refine List.mem_flatMap.2 ⟨v, hv, ?_⟩
  match k, hk with
  | 0, _ => exact .head _
  | 1, _ => exact .tail _ (.head _)
  | 2, _ => exact .tail _ (.tail _ (.head _))
 have hn2 : (((V.map (·.2)).filter (fun v => decide (rv v))).flatMap eds).Nodup := hT.nd.sublist (sub_flat _ List.filter_sublist)
 have hn1 : ((reals tris).flatMap (fun x => hEt tris x.2)).Nodup := by
  have e1 : ((reals tris).map (fun x => ((x.1, (x.2.v0, x.2.v1, x.2.v2)) : Nat × T3))).Perm (V.filter (fun x => decide (rv x.2))) := by
   rw [show reals tris = realsF 0 tris from rfl, realsF_lv]
   exact (h.perm hT).filter _
  have e2 : ((reals tris).flatMap (fun x => eds (x.2.v0, x.2.v1, x.2.v2))).Nodup := by
   have e3 : (reals tris).flatMap (fun x => eds (x.2.v0, x.2.v1, x.2.v2)) = ((reals tris).map (fun x => ((x.1, (x.2.v0, x.2.v1, x.2.v2)) : Nat × T3))).flatMap (fun x => eds x.2) := by rw [List.flatMap_map]
   rw [e3, (e1.flatMap_right (fun x => eds x.2)).nodup_iff]
   refine List.Nodup.sublist (sub_flat _ List.filter_sublist) ?_
   rw [flatMap_snd]
   exact hT.nd
  have key : ∀ l : List (Nat × Tr), (l.flatMap (fun x => hEt tris x.2)).Sublist (l.flatMap (fun x => eds (x.2.v0, x.2.v1, x.2.v2))) := by
   intro l
   induction l with
   | nil => exact List.Sublist.refl _
   | cons x l ih =>
    rw [List.flatMap_cons, List.flatMap_cons]
    refine List.Sublist.append ?_ ih
    exact (List.filter_sublist (l := [0, 1, 2])).map (edT x.2)
  exact e2.sublist (key _)
 rw [List.perm_ext_iff_of_nodup hn1 (hn2.sublist (by unfold openE; exact List.filter_sublist))]
 intro e
 rw [mem_openE]
 constructor
 ·intro he
  obtain ⟨⟨q, t⟩, hx, hk⟩ := List.mem_flatMap.1 he
  obtain ⟨ht, hV, hr⟩ := h.mem_real.1 hx
  unfold hEt at hk
  obtain ⟨k, hk2, rfl⟩ := List.mem_map.1 hk
  rw [List.mem_filter] at hk2
  obtain ⟨hk3, hnr⟩ := hk2
  have hk3 := lt3 hk3
  have hR : (t.v0, t.v1, t.v2) ∈ (V.map (·.2)).filter (fun v => decide (rv v)) := List.mem_filter.2 ⟨List.mem_map.2 ⟨_, hV, rfl⟩, by simpa using hr⟩
  refine ⟨hsub hR hk3, fun p => ?_⟩
  obtain ⟨y, hy, j, hj, he2, hn, _⟩ := h.across hT hV ht hk3
  obtain ⟨w, hw, hwe⟩ := List.mem_flatMap.1 p
  rw [List.mem_filter] at hw
  obtain ⟨hw1, hw2⟩ := hw
  obtain ⟨z, hz, rfl⟩ := List.mem_map.1 hw1
  have : ∃ m, m < 3 ∧ kv z.2 m = rev2 (edT t k) := by
   simp only [eds, List.mem_cons, List.not_mem_nil, or_false] at hwe
   rcases hwe with q | q | q
   ·exact ⟨0, by decide, q.symm⟩
   ·exact ⟨1, by decide, q.symm⟩
   ·exact ⟨2, by decide, q.symm⟩
  obtain ⟨m, hm, hzm⟩ := this
  have hyz := (h.un y hy j hj z hz m hm (he2.trans hzm.symm)).1
  have hnr' : ¬ isReal tris (t.n k) := by simpa using hnr
  rw [hn] at hnr'
  exact hnr' ((h.real_at hy).2 (by rw [hyz]; simpa using hw2))
 ·rintro ⟨h1, h2⟩
  obtain ⟨w, hw, hwe⟩ := List.mem_flatMap.1 h1
  rw [List.mem_filter] at hw
  obtain ⟨hw1, hw2⟩ := hw
  obtain ⟨x, hx, rfl⟩ := List.mem_map.1 hw1
  have hwr : rv x.2 := by simpa using hw2
  obtain ⟨t, ht, htv⟩ := h.get hx
  have : ∃ k, k < 3 ∧ e = edT t k := by
   rw [← htv] at hwe
   simp only [eds, List.mem_cons, List.not_mem_nil, or_false] at hwe
   rcases hwe with q | q | q
   ·exact ⟨0, by decide, q⟩
   ·exact ⟨1, by decide, q⟩
   ·exact ⟨2, by decide, q⟩
  obtain ⟨k, hk, rfl⟩ := this
  refine List.mem_flatMap.2 ⟨(x.1, t), h.mem_real.2 ⟨ht, by rw [htv]; exact hx, by rw [htv]; exact hwr⟩, ?_⟩
  unfold hEt
  refine List.mem_map.2 ⟨k, List.mem_filter.2 ⟨in3' hk, ?_⟩, rfl⟩
  obtain ⟨y, hy, j, hj, he2, hn, _⟩ := h.across hT hx ht hk
  rw [Bool.not_eq_true', decide_eq_false_iff_not, hn]
  intro hr
  apply h2
  have hyr := (h.real_at hy).1 hr
  have hm := hsub (List.mem_filter.2 ⟨List.mem_map.2 ⟨y, hy, rfl⟩, by simpa using hyr⟩) hj
  rw [he2] at hm
  rw [← htv] at hm
  exact hm
theorem LM.sumA (h : LM F tris V) (hT : TG n (V.map (·.2))) : sumA pts (reals tris) = (((V.map (·.2)).filter (fun v => decide (rv v))).map fun v => A2p pts v.1 v.2.1 v.2.2).sum := by
 have e1 : ((reals tris).map (fun x => ((x.1, (x.2.v0, x.2.v1, x.2.v2)) : Nat × T3))).Perm (V.filter (fun x => decide (rv x.2))) := by
  rw [show reals tris = realsF 0 tris from rfl, realsF_lv]
  exact (h.perm hT).filter _
 have e2 := sum_perm (fun x : Nat × T3 => A2p pts x.2.1 x.2.2.1 x.2.2.2) e1
 rw [List.map_map] at e2
 unfold Go.Proofs.Ytbanlhlggkdanaa.sumA
 rw [show ((V.map (·.2)).filter (fun v => decide (rv v))) = (V.filter (fun x => decide (rv x.2))).map (·.2) from by rw [List.filter_map]; rfl, List.map_map]
 exact e2
end
def hB (W H : Nat) (f : Nat → Bool) : Bool :=
 let E := openE (gTris W H f)
 let l := hullV E (gPts W H).length
 decide ((gAll W H f).filter (fun v => decide (rv v)) = gTris W H f) && (decide ((E.map (·.1)).Nodup) && (l.all (fun v => decide (0 ≤ v ∧ v < (gPts W H).length)) && ((List.range l.length).all (fun i => l.all fun c => decide (0 ≤ A2p (gPts W H) (l.getD i 0) (l.getD ((i + 1) % l.length) 0) c)) &&
 decide (((gTris W H f).map fun v => A2p (gPts W H) v.1 v.2.1 v.2.2).sum = outA (gPts W H) l l.length))))
end Go.Proofs.Ytbanlhlggkdanaa
namespace Go.Proofs.Ytbanlhlggkdanaa
open Go.RowKit
end Go.Proofs.Ytbanlhlggkdanaa
namespace Go.Proofs.Ytbanlhlggkdanaa
open Go.RowKit
theorem tmod_ix {x : Int} {m : Nat} (h0 : 0 ≤ x) (h1 : 0 < m) : ∃ j : Nat, Int.tmod x (m : Nat) = (j : Int) ∧ j < m := by
 refine ⟨(x % (m : Int)).toNat, ?_, ?_⟩
 ·rw [Int.tmod_eq_emod_of_nonneg h0, Int.toNat_of_nonneg (Int.emod_nonneg _ (by omega))]
 ·have := Int.emod_lt_of_pos x (show (0 : Int) < m by omega)
  have := Int.emod_nonneg x (show (m : Int) ≠ 0 by omega)
  omega
section
variable {F : MapI} {W H : Nat} {f : Nat → Bool} {M : MD} {V : List (Nat × T3)}
end
end Go.Proofs.Ytbanlhlggkdanaa
namespace Go.Proofs.Ytbanlhlggkdanaa
open Go.RowKit
theorem ent_6 : Enter Try.prog 6 = true := by kernel_rfl
theorem zer_26 : zer Try.prog 26 = some (.slice none 0 0) := by kernel_rfl
section
variable {E : Env} {Q : Qt} {σ : List (Nat × Value)} {μ φ : List Res} {ops : Array Oper} {rest : List Oper} {cd : Code} {B : Nat} {M : MD}
def keepR (E : Env) (r : Res) (ψ : List Res) : Res where
 p w S := ∃ S1 S2 : Nat → Prop, r.p w S1 ∧ Fac w ψ S2 ∧ (∀ k, S1 k → ¬ S2 k) ∧ (∀ k, S1 k → E.S0 k ∨ E.w0.heap.size ≤ k) ∧ (∀ k, S k ↔ S1 k ∨ S2 k) ∧ ∀ k, S2 k → k < w.heap.size
 loc := fun {w w'} {S} ⟨S1, S2, h1, h2, h3, h4, h5, h6⟩ hk => ⟨S1, S2, r.loc h1 (fun k hh => hk k ((h5 k).2 (.inl hh))), fun q hq => let ⟨S', a, b⟩ := h2 q hq; ⟨S', q.loc a (fun k hh => hk k ((h5 k).2 (.inr (b k hh)))), b⟩, h3, h4, h5, fun k hh => by
  have e := hk k ((h5 k).2 (.inr hh))
  have := h6 k hh
  rw [Array.getElem?_eq_getElem this] at e
  exact (Array.getElem?_eq_some_iff.1 e).1⟩
 lt := fun {w} {S} {k} ⟨S1, S2, h1, h2, h3, h4, h5, h6⟩ hk => by
  rcases (h5 k).1 hk with h | h
  ·exact r.lt h1 h
  ·exact h6 k h
theorem OKm.lendR {r : Res} {w : World} (h : OKm E (r :: μ) φ w) : OKm E μ (keepR E r φ :: r :: φ) w := by
 refine ⟨h.keeps, ?_⟩
 obtain ⟨S, T, ⟨S1, S2, g1, g2, gd, gs⟩, h2, h3, h4, h5, h6⟩ := h.mem
 have hd : ∀ k, S1 k → ¬ T k := fun k hk => h3 k ((gs k).2 (.inl hk))
 refine ⟨S2, fun k => T k ∨ S1 k, g2, ?_, ?_, fun k hk => h4 k ((gs k).2 (.inr hk)), ?_, ?_⟩
 ·intro r' hr'
  rcases List.mem_cons.1 hr' with rfl | hr'
  ·exact ⟨fun k => S1 k ∨ T k, ⟨S1, T, g1, h2, hd, fun k hk => h4 k ((gs k).2 (.inl hk)), fun k => Iff.rfl, h6⟩, fun k hk => hk.symm⟩
  ·rcases List.mem_cons.1 hr' with rfl | hr'
   ·exact ⟨S1, g1, fun k hk => .inr hk⟩
   ·obtain ⟨S', a, b⟩ := h2 r' hr'
    exact ⟨S', a, fun k hk => .inl (b k hk)⟩
 ·rintro k hk (hT | hS)
  ·exact h3 k ((gs k).2 (.inr hk)) hT
  ·exact gd k hS hk
 ·rintro k (hT | hS)
  ·exact h5 k hT
  ·exact .inr (h4 k ((gs k).2 (.inl hS)))
 ·rintro k (hT | hS)
  ·exact h6 k hT
  ·exact r.lt g1 hS
theorem OKm.thaw {r : Res} {ψ : List Res} {w : World} (h : OKm E μ φ w) (hm : keepR E r ψ ∈ φ) : OKm E (r :: μ) ψ w := by
 refine ⟨h.keeps, ?_⟩
 obtain ⟨S, T, h1, h2, h3, h4, h5, h6⟩ := h.mem
 obtain ⟨S', ⟨S1, S2, k1, k2, k3, k4, k5, k6⟩, hT⟩ := h2 _ hm
 refine ⟨fun k => S1 k ∨ S k, S2, ⟨S1, S, k1, h1, fun k hk hS => h3 k hS (hT k ((k5 k).2 (.inl hk))), fun k => Iff.rfl⟩, k2, ?_, ?_, ?_, k6⟩
 ·rintro k (hk | hk) hh
  ·exact k3 k hk hh
  ·exact h3 k hk (hT k ((k5 k).2 (.inr hh)))
 ·rintro k (hk | hk)
  ·exact k4 k hk
  ·exact h4 k hk
 ·exact fun k hk => h5 k (hT k ((k5 k).2 (.inr hk)))
theorem CJ_thaw {r : Res} {ψ : List Res} (hm : keepR E r ψ ∈ φ) (h : CJ E Q cd σ (r :: μ) ψ) : CJ E Q cd σ μ φ := fun a w ha hk => h a w ha (hk.thaw hm)
theorem OKm.addFs {r : Res} {w : World} (h : OKm E μ φ w) (hr : r ∈ φ) {ι : Type} {C : ι → Prop} {G : ι → List Res} (hi : ∀ S, r.p w S → ∃ x, C x ∧ Fac w (G x) S) : ∃ x, C x ∧ OKm E μ (G x ++ φ) w := by
 obtain ⟨S, T, h1, h2, h3, h4, h5, h6⟩ := h.mem
 obtain ⟨S', a, b⟩ := h2 r hr
 obtain ⟨x, hx, hG⟩ := hi S' a
 refine ⟨x, hx, h.keeps, S, T, h1, fun q hq => ?_, h3, h4, h5, h6⟩
 rcases List.mem_append.1 hq with hq | hq
 ·obtain ⟨S2, c, d⟩ := hG q hq
  exact ⟨S2, c, fun k hk => b k (d k hk)⟩
 ·exact h2 q hq
theorem OKm.lendMesh {w : World} (hm : OKm E (meshR B M :: μ) φ w) : ∃ h : Mh, (h.nf = M.free.length ∧ h.na = M.ats.length ∧ (0 < M.tris.length → M.tris.length ≤ h.ct)) ∧ OKm E μ (frzFs B M h ++ keepR E (meshR B M) φ :: φ) w := by
 obtain ⟨x, hx, h⟩ := hm.lendR.addFs (r := meshR B M) (.tail _ (.head _)) (C := fun h : Mh => h.nf = M.free.length ∧ h.na = M.ats.length ∧ (0 < M.tris.length → M.tris.length ≤ h.ct)) (G := fun h => frzFs B M h) (fun S hS => by
  have h0 : OKm ⟨E.P, w, S, fun _ => False, E.N, E.ds⟩ (meshR B M :: []) [] w := ⟨Keeps.refl _ _, S, fun _ => False, ⟨S, fun _ => False, hS, fun _ h => h, fun _ _ h => h, fun k => by simp⟩, (fun _ h => nomatch h), fun _ _ h => h, fun k h => .inl h, fun k h => h.elim, fun k h => h.elim⟩
  obtain ⟨x, hx, h1⟩ := h0.freezeMesh
  obtain ⟨S', T', _, g2, _, _, g5, g6⟩ := h1.mem
  refine ⟨x, hx, fun q hq => ?_⟩
  obtain ⟨S2, c, d⟩ := g2 q (List.mem_append_left _ hq)
  refine ⟨S2, c, fun k hk => ?_⟩
  rcases g5 k (d k hk) with q | q | q
  ·exact q.elim
  ·exact q
  ·exact absurd (g6 k (d k hk)) (by have : w.heap.size ≤ k := q; omega))
 refine ⟨x, hx, h.weak (μr := []) (by simp) (fun r hr => ?_)⟩
 rcases List.mem_append.1 hr with hr | hr
 ·exact List.mem_append_left _ hr
 ·rcases List.mem_cons.1 hr with rfl | hr
  ·exact List.mem_append_right _ (.head _)
  ·exact List.mem_append_right _ (.tail _ (.tail _ hr))
theorem LJ_lendMesh (h : ∀ hm : Mh, hm.nf = M.free.length → hm.na = M.ats.length → LJ E Q ops rest σ μ (frzFs B M hm ++ keepR E (meshR B M) φ :: φ)) : LJ E Q ops rest σ (meshR B M :: μ) φ := fun a w ha hm => let ⟨x, h1, h3⟩ := hm.lendMesh; h x h1.1 h1.2.1 a w ha h3
end
section
variable {E : Env} {Q : Qt} {σ : List (Nat × Value)} {μ φ : List Res} {ops : Array Oper} {ml pl : List Res} {fuel : Nat} {listed : Array Bool}
theorem AJ_y1 (i : Nat) {d : Tmp} {op : Op} {ty : TypeId} {pos : String} {af : Array Edge} {g : Option (Nat × Bool)} {v : Value} (hi : ops[i]? = some ⟨some d, op, ty, pos, af, g⟩)
  (hr : Region.ready .any ops listed = [i]) (hg : grd ops σ g = some true) (hd : Nat.blt d E.N = true) (hy : YJ E op ty σ μ φ v)
  (h : AJ E Q ops ml pl fuel (listed.setIfInBounds i true) ((d, v) :: σ) μ φ) : AJ E Q ops ml pl (fuel + 1) listed σ μ φ :=
 AJ_o i hi hr hg hd (X := fun v' μ' φ' => v' = v ∧ μ' = μ ∧ φ' = φ) (fun a w d pos af g K Q hs hm k => by
  unfold Oper.wp
  rw [hy a w d pos af g hs hm.hold.1 hm.hold.2, Oper.upon_value]
  exact k v μ φ w ⟨rfl, rfl, rfl⟩ hm) (by rintro _ _ _ ⟨rfl, rfl, rfl⟩; exact ⟨fun _ _ h => h, fun _ _ h => h, h⟩)
end
theorem new_add {pts : List (Int × Int)} {a b c : Nat} {p : Int × Int} (h1 : a ≠ b) (h2 : b ≠ c) (h3 : c ≠ a) (ha : a < pts.length) (hb : b < pts.length) (hc : c < pts.length) : (newM pts a b c).add p = newM (pts ++ [p]) a b c := by
 have e : (newM pts a b c).ats ++ [-1] = (newM (pts ++ [p]) a b c).ats := by
  refine List.ext_getElem? (fun v => ?_)
  by_cases hv : v < pts.length
  ·rw [List.getElem?_append_left (by rw [new_len]; exact hv), new_at h1 h2 h3 hv, new_at h1 h2 h3 (by rw [List.length_append]; omega)]
  ·by_cases hv2 : v = pts.length
   ·subst hv2
    rw [new_at h1 h2 h3 (by rw [List.length_append]; simp), List.getElem?_append_right (by rw [new_len]; exact Nat.le_refl _), new_len, Nat.sub_self, if_neg (by omega), if_neg (by omega), if_neg (by omega)]
    rfl
   ·rw [List.getElem?_eq_none (by rw [List.length_append, new_len]; simp; omega), List.getElem?_eq_none (by rw [new_len, List.length_append]; simp; omega)]
 show (⟨pts ++ [p], triNew a b c, _, _⟩ : MD) = ⟨pts ++ [p], triNew a b c, _, _⟩
 rw [MD.mk.injEq]
 exact ⟨rfl, rfl, rfl, e⟩
theorem new_atv {pts : List (Int × Int)} {a b c : Nat} (h1 : a ≠ b) (h2 : b ≠ c) (h3 : c ≠ a) {v : Nat} (hv : v < pts.length) : ∃ x, (newM pts a b c).ats[v]? = some x ∧ (0 ≤ x ↔ v = a ∨ v = b ∨ v = c) := by
 refine ⟨_, new_at h1 h2 h3 hv, ?_⟩
 (repeat' split) <;> simp [*] <;> omega
theorem new_reals (a b c : Nat) : reals (triNew a b c) = [(0, ⟨a, b, c, 1, 2, 3, false, false, false⟩)] := by simp [reals, triNew, realsF, Tr.real]
theorem new_pre {a b c : Nat} {pre : List (Nat × Tr)} {n : Nat} {t : Tr} (h : pre ++ [(n, t)] <+: reals (triNew a b c)) : pre = [] ∧ n = 0 ∧ t = ⟨a, b, c, 1, 2, 3, false, false, false⟩ := by
 rw [new_reals] at h
 obtain ⟨r, hr⟩ := h
 match pre, hr with
 | [], hr =>
  simp at hr
  exact ⟨rfl, hr.1.1, hr.1.2⟩
 | x :: l, hr => simp at hr
theorem plc_some {t : Tr} {v : Int} (h : t.v0 = v ∨ t.v1 = v ∨ t.v2 = v) : ∃ p : Nat, plc t v = p := by
 rw [plc_eq]
 (repeat' split) <;> first | exact ⟨0, rfl⟩ | exact ⟨1, rfl⟩ | exact ⟨2, rfl⟩ | (exfalso; omega)
theorem new_ok {A : Option Addr} {pts : List (Int × Int)} {cp a b c : Nat} (hlen : pts.length ≤ 100000) (ha : a < pts.length) (hb : b < pts.length) (hc : c < pts.length) (hP : ∀ j, j < pts.length → P2 (pts.getD j (0, 0)).1 (pts.getD j (0, 0)).2) (hA : ¬ pA pts a b c = 0) :
  ∃ e f : Nat, (e = b ∧ f = c ∨ e = c ∧ f = b) ∧ 0 < pA pts a e f ∧ Tri Try.prog 18 [.slice A pts.length cp, .int .i64 (a : Int), .int .i64 (b : Int), .int .i64 (c : Int)] [] [sliceR 2 A pts.length (ptCells pts)] (RetL (fun _ : Nat => True) (fun B => .tuple #[.pointer (some ⟨B, 0, none⟩), .bool true]) (fun B => meshR B (newM pts a e f)) (fun _ => [])) := by
 by_cases h : 0 < pA pts a b c
 ·exact ⟨b, c, .inl ⟨rfl, rfl⟩, h, new_pos hlen ha hb hc hP h⟩
 ·have hn : pA pts a b c < 0 := by omega
  refine ⟨c, b, .inr ⟨rfl, rfl⟩, ?_, new_neg hlen ha hb hc hP hn⟩
  have : pA pts a c b = - pA pts a b c := by
   unfold pA A2 det
   grind
  omega
def tmL (l : List (Int × Int)) : List (Int × Int) := l.map fun p => (tm p.1, tm p.2)
theorem tmL_app (l : List (Int × Int)) {j : Nat} (hj : j < l.length) : tmL (l.take (j + 1)) = tmL (l.take j) ++ [(tm (l.getD j (0, 0)).1, tm (l.getD j (0, 0)).2)] := by
 rw [List.take_add_one, List.getElem?_eq_getElem hj, List.getD_eq_getElem?_getD, List.getElem?_eq_getElem hj]
 simp only [tmL, List.map_append, Option.toList_some, List.map_cons, List.map_nil, Option.getD_some]
theorem tmL_ok (l : List (Int × Int)) : ∀ j, j < (tmL l).length → P2 ((tmL l).getD j (0, 0)).1 ((tmL l).getD j (0, 0)).2 := fun j hj => by
 rw [List.getD_eq_getElem?_getD, List.getElem?_eq_getElem hj]
 simp only [tmL, List.getElem_map, Option.getD_some]
 exact tm_p _ _
theorem ok_app {l : List (Int × Int)} (h : ∀ j, j < l.length → P2 (l.getD j (0, 0)).1 (l.getD j (0, 0)).2) : ∀ j, j < (l ++ [((0 : Int), (0 : Int))]).length → P2 ((l ++ [((0 : Int), (0 : Int))]).getD j (0, 0)).1 ((l ++ [((0 : Int), (0 : Int))]).getD j (0, 0)).2 := fun j hj => by
 by_cases q : j < l.length
 ·rw [List.getD_eq_getElem?_getD, List.getElem?_append_left q, ← List.getD_eq_getElem?_getD]
  exact h j q
 ·rw [List.getD_eq_getElem?_getD, List.getElem?_append_right (by omega)]
  cases j - l.length <;> exact ⟨by unfold Tm; simp, by unfold Tm; simp⟩
theorem pA_app {l : List (Int × Int)} {p : Int × Int} {a b c : Nat} (ha : a < l.length) (hb : b < l.length) (hc : c < l.length) : pA (l ++ [p]) a b c = pA l a b c := by
 have e : ∀ j, j < l.length → (l ++ [p]).getD j (0, 0) = l.getD j (0, 0) := fun j hj => by
  rw [List.getD_eq_getElem?_getD, List.getElem?_append_left hj, ← List.getD_eq_getElem?_getD]
 unfold pA
 rw [e a ha, e b hb, e c hc]
theorem eqs_nil (x y : Operand) (w : World) :
  (do eqGuard .eql 28 x y (.pointer none) (.pointer none); binOp .eql 28 (.pointer none) (.pointer none) : Sem Value).run Try.prog w = .ok (.bool true) w := by
 simp only [Sem.run_bind]
 rw [show (eqGuard .eql 28 x y (.pointer none) (.pointer none)) = pure () from rfl]
 simp only [Sem.run_pure, Result.andThen_ok]
 rw [run_eql_pointer_nil w 28 none (by kernel_rfl)]
 rfl
set_option maxRecDepth 100000 in
set_option maxHeartbeats 16000000 in
theorem meshNews_c {z0 z1 z2 : Int} {A : Option Addr} {nd cd : Nat} {ps : List (Int × Int)} (hpn : ps.length = nd) : Tri Try.prog 6 [.slice A nd cd, .agg #[.int .i64 z0, .int .i64 z1, .int .i64 z2]] [] [sliceR 2 A nd (ptCells ps)] (Ret0 (.bool true)) := by
 refine Tri_ofM (N := 206) Try.func6 rfl ent_6 rfl rfl ?_
 intro w0 S0 T0
 show CJ _ _ _ [(0, _), (1, _)] _ _
 refine CJ_seq ?_
 refine CJ_reg ?_
 refine LJ_box (cs := #[_, _, _]) rfl rfl rfl rfl ?_
 intro b1
 refine LJ_alloc (cs := #[_]) rfl rfl zer_4 rfl ?_
 intro b2
 refine LJ_nil ?_
 refine QJ_then ?_
 refine CJ_seq ?_
 refine CJ_seq ?_
 refine CJ_reg ?_
 refine LJ_call0 rfl rfl rfl rfl rfl fit9_c (fun _ h => nomatch h) ?_
 refine LJ_y rfl rfl (YJ_not rfl) ?_
 refine LJ_nil ?_
 refine QJ_then ?_
 refine CJ_condF rfl ?_
 refine CJ_skip ?_
 refine QJ_then ?_
 refine CJ_seq ?_
 refine CJ_seq ?_
 refine CJ_reg ?_
 refine LJ_y rfl rfl (YJ_move rfl) ?_
 refine LJ_y rfl rfl (YJ_len rfl ulen_26 rfl) ?_
 refine LJ_y rfl rfl (YJ_bin rfl rfl rfl) ?_
 refine LJ_y rfl rfl (YJ_move rfl) ?_
 refine LJ_boolC (fun h23 => ?_) (fun h23 => ?_)
 ·simp only [decide_eq_true_eq] at h23
  refine LJ_skip rfl rfl ?_
  refine LJ_skip rfl rfl ?_
  refine LJ_skip rfl rfl ?_
  refine LJ_y rfl rfl (YJ_pickT rfl rfl) ?_
  refine LJ_nil ?_
  refine QJ_then ?_
  refine CJ_condT rfl ?_
  refine CJ_seq ?_
  refine CJ_reg ?_
  refine LJ_store (cs' := #[_]) (μ' := [_, _]) 0 rfl rfl rfl rfl tyi_4 rfl (Nat.le_of_ble_eq_true rfl) rfl rfl rfl ?_
  refine LJ_nil ?_
  refine QJ_then ?_
  refine CJ_ret ?_
  refine QJ_then_ret ?_
  refine QJ_finM (.inl rfl) [] rfl (μ' := []) (μr := [_, _]) (φ' := []) (res_cell1 rfl rfl m0 tyi_4) (permI [] rfl) (fun _ h => nomatch h) ?_
  exact ⟨rfl, rfl, rfl⟩
 ·simp only [decide_eq_false_iff_not] at h23
  refine LJ_y rfl rfl (YJ_move rfl) ?_
  refine LJ_y rfl rfl (YJ_len rfl ulen_26 rfl) ?_
  refine LJ_y rfl rfl (YJ_bin rfl rfl rfl) ?_
  refine LJ_y rfl rfl (YJ_pickF rfl rfl) ?_
  refine LJ_nil ?_
  refine QJ_then ?_
  refine CJ_cond rfl (fun h27 => ?_) (fun h27 => ?_)
  ·simp only [decide_eq_true_eq] at h27
   refine CJ_seq ?_
   refine CJ_reg ?_
   refine LJ_store (cs' := #[_]) (μ' := [_, _]) 0 rfl rfl rfl rfl tyi_4 rfl (Nat.le_of_ble_eq_true rfl) rfl rfl rfl ?_
   refine LJ_nil ?_
   refine QJ_then ?_
   refine CJ_ret ?_
   refine QJ_then_ret ?_
   refine QJ_finM (.inl rfl) [] rfl (μ' := []) (μr := [_, _]) (φ' := []) (res_cell1 rfl rfl m0 tyi_4) (permI [] rfl) (fun _ h => nomatch h) ?_
   exact ⟨rfl, rfl, rfl⟩
  ·simp only [decide_eq_false_iff_not] at h27
   refine CJ_skip ?_
   refine QJ_then ?_
   refine CJ_seq ?_
   refine CJ_reg ?_
   refine LJ_alloc (cs := #[_]) rfl rfl zer_26 rfl ?_
   intro b3
   refine LJ_nil ?_
   refine QJ_then ?_
   refine CJ_seq ?_
   refine CJ_seq ?_
   refine CJ_newRow 23 2 ?_
   refine CJ_reg ?_
   refine LJ_y rfl rfl (YJ_move rfl) ?_
   refine LJ_y rfl rfl (YJ_len rfl ulen_26 rfl) ?_
   refine LJ_y rfl rfl (YJ_move rfl) ?_
   refine LJ_nil ?_
   refine QJ_then ?_
   refine CJ_block ?_
   refine CJ_loopF (F := fun (i : Nat × Option Addr × Nat) => ⟨[(0, .slice A nd cd), (3, .pointer (some ⟨b1, 0, none⟩)), (4, .pointer (some ⟨b2, 0, none⟩)), (5, .pointer (some ⟨b3, 0, none⟩)), (28, .slice A nd cd), (29, .int .i64 nd), (30, .int .i64 (i.1 : Nat))], [cellsR b3 #[.slice i.2.1 i.1 i.2.2] 26, rowR 23 2 i.2.1 i.1 i.2.2 (ptCells (tmL (ps.take i.1)))], []⟩) (I := fun (i : Nat × Option Addr × Nat) => i.1 ≤ nd) (m := fun (i : Nat × Option Addr × Nat) => nd - i.1) (0, none, 0) (μr := [_, _]) (Nat.zero_le _) (And.intro rfl (And.intro rfl (And.intro rfl (And.intro rfl (And.intro rfl (And.intro rfl (And.intro rfl (trivial)))))))) (permI [1] rfl) (fun _ h => nomatch h) ?_
   rintro ⟨j, A0, c0⟩ hj
   try dsimp only at hj
   show CJ _ _ _ [(0, .slice A nd cd), (3, .pointer (some ⟨b1, 0, none⟩)), (4, .pointer (some ⟨b2, 0, none⟩)), (5, .pointer (some ⟨b3, 0, none⟩)), (28, .slice A nd cd), (29, .int .i64 nd), (30, .int .i64 (j : Nat))] (cellsR b3 #[.slice A0 j c0] 26 :: rowR 23 2 A0 j c0 (ptCells (tmL (ps.take j))) :: _ :: _ :: _) _
   refine CJ_seq ?_
   refine CJ_reg ?_
   refine LJ_y rfl rfl (YJ_bin rfl rfl rfl) ?_
   refine LJ_nil ?_
   refine QJ_then ?_
   refine CJ_seq ?_
   refine CJ_cond rfl (fun h31 => ?_) (fun h31 => ?_)
   ·simp only [decide_eq_true_eq] at h31
    refine CJ_skip ?_
    refine QJ_then ?_
    refine CJ_seq ?_
    refine CJ_block ?_
    refine CJ_seq ?_
    refine CJ_reg ?_
    refine LJ_y rfl rfl (YJ_ixFact (n' := nd) rfl rfl elt_26 m0 (by decide) (by omega) (by omega) (by omega)) ?_
    refine LJ_y rfl rfl (YJ_loadFactN (vs := [_, _]) (xs := ptCells ps) rfl tyi_23 m0 (ptCells_get (i := j) (by omega)) rfl) ?_
    refine LJ_alloc (cs := #[_, _]) rfl rfl zer_23 rfl ?_
    intro b4
    refine LJ_store (cs' := #[_, _]) (μ' := [_, _, _, _, _]) 0 rfl rfl rfl rfl tyi_23 rfl (Nat.le_of_ble_eq_true rfl) rfl rfl rfl ?_
    refine LJ_nil ?_
    refine QJ_then ?_
    refine CJ_regM mix (by kernel_rfl) (fun _ _ _ _ _ h => h) [[], [5], [4, 5], [], []] ?_
    refine BJ_l 0 1 rfl (by kernel_rfl) (by kernel_rfl) (by kernel_rfl) rfl (by kernel_rfl) m1 rfl rfl (YJ_loadL rfl tyi_26 m0 rfl) ?_
    refine BJ_l 1 0 rfl (by kernel_rfl) (by kernel_rfl) (by kernel_rfl) rfl (by kernel_rfl) m0 rfl rfl (YJ_loadN (vs := [_, _]) rfl tyi_23 m0 rfl rfl) ?_
    refine BJ_call0 2 rfl (by kernel_rfl) rfl rfl rfl rfl rfl (And.intro (.inr m0) (And.intro (.inr m1) (And.intro (.inr m2) (And.intro (.inr m3) (And.intro (.inr m4) (trivial)))))) (tame_c (x := (ps.getD j (0, 0)).1) (y := (ps.getD j (0, 0)).2)) (fun _ h => nomatch h) ?_
    refine BJ_buildSlice (vs := [_]) (cs := [_, _]) 3 rfl (by kernel_rfl) rfl rfl elt_26 zer_23 (by decide) (by decide) rfl rfl rfl rfl rfl (fun b => (And.intro (.inr m1) (And.intro (.inr m2) (And.intro (.inr m3) (And.intro (.inr m4) (And.intro (.inr m5) (trivial))))))) ?_
    intro b5
    refine BJ_append 4 3 rfl (by kernel_rfl) rfl rfl elt_26 zer_23 rfl rfl rfl rfl (Rd_own m0) rfl rfl (by omega) (by omega) (by decide) ((ptCells_app _ (tm (ps.getD j (0, 0)).1, tm (ps.getD j (0, 0)).2)).trans (congrArg ptCells (tmL_app ps (by omega)).symm)) (fun _ _ => (And.intro (.inr m1) (And.intro (.inr m2) (And.intro (.inl rfl) (And.intro (.inr m4) (And.intro (.inr m5) (trivial))))))) ?_
    intro A38 c38
    show BJ _ _ _ _ _ _ _ _ (_ :: _ :: _ :: _ :: _ :: _ :: _) _
    refine BJ_store (cs' := #[_]) (μ' := [_, _, _, _, _, _]) 5 2 rfl (by kernel_rfl) rfl rfl rfl rfl tyi_26 rfl (Nat.le_of_ble_eq_true rfl) rfl rfl rfl (And.intro (.inr m1) (And.intro (.inl rfl) (And.intro (.inl rfl) (And.intro (.inr m4) (And.intro (.inr m5) (trivial)))))) ?_
    refine BJ_done (by kernel_rfl) ?_
    refine QJ_in_normal ?_
    refine QJ_then ?_
    refine CJ_reg ?_
    refine LJ_y rfl rfl (YJ_bin rfl rfl (iop_add (by omega))) ?_
    refine LJ_y rfl rfl (YJ_move rfl) ?_
    refine LJ_nil ?_
    refine QJ_roundF (F := fun (i : Nat × Option Addr × Nat) => ⟨[(0, .slice A nd cd), (3, .pointer (some ⟨b1, 0, none⟩)), (4, .pointer (some ⟨b2, 0, none⟩)), (5, .pointer (some ⟨b3, 0, none⟩)), (28, .slice A nd cd), (29, .int .i64 nd), (30, .int .i64 (i.1 : Nat))], [cellsR b3 #[.slice i.2.1 i.1 i.2.2] 26, rowR 23 2 i.2.1 i.1 i.2.2 (ptCells (tmL (ps.take i.1)))], []⟩) (I := fun (i : Nat × Option Addr × Nat) => i.1 ≤ nd) (m := fun (i : Nat × Option Addr × Nat) => nd - i.1) (i := (j, A0, c0)) ((j + 1, A38, c38)) (μd := [_, _]) (by dsimp only; omega) (by dsimp only; omega) (And.intro rfl (And.intro rfl (And.intro rfl (And.intro rfl (And.intro rfl (And.intro rfl (And.intro rfl (trivial)))))))) (permI [2, 2, 2, 2] rfl) (fun _ h => nomatch h) (fun _ h => h)
   ·simp only [decide_eq_false_iff_not] at h31
    have hj9 : nd = j := by omega
    subst hj9
    rw [List.take_of_length_le (Nat.le_of_eq hpn)]
    have hP := tmL_ok ps
    obtain ⟨qs, hqs⟩ : ∃ q, tmL ps = q := ⟨_, rfl⟩
    have hql : qs.length = nd := by rw [← hqs, tmL, List.length_map]; exact hpn
    rw [hqs] at hP ⊢
    subst hql
    refine CJ_exit ?_
    refine QJ_then_exit ?_
    refine QJ_then_exit ?_
    refine QJ_in_exit ?_
    refine QJ_then ?_
    refine CJ_seq ?_
    obtain ⟨a, ha, hal⟩ := tmod_ix (x := z0 % ((2 ^ 12 : Nat) : Int)) (m := qs.length) (by omega) (by omega)
    obtain ⟨b, hb, hbl⟩ := tmod_ix (x := z1 % ((2 ^ 12 : Nat) : Int)) (m := qs.length) (by omega) (by omega)
    obtain ⟨c, hc, hcl⟩ := tmod_ix (x := z2 % ((2 ^ 12 : Nat) : Int)) (m := qs.length) (by omega) (by omega)
    refine CJ_freezeRowK (n' := qs.length) (xs' := ptCells qs) 1 rfl rfl rfl ?_
    show CJ _ _ _ _ (_ :: _ :: _ :: _) _
    refine CJ_regDA mix (by kernel_rfl) (fun _ _ _ _ _ h => h) _ _ (fun _ h => h) (fun _ h => h) [⟨18, 8, 3, #[.int .i64 0]⟩, ⟨19, 9, 3, #[.int .i64 0]⟩, ⟨20, 10, 3, #[.int .i64 0]⟩] 21 rfl (And.intro ⟨_, _, _, _, rfl, zer_3, rfl⟩ (And.intro ⟨_, _, _, _, rfl, zer_3, rfl⟩ (And.intro ⟨_, _, _, _, rfl, zer_3, rfl⟩ (trivial)))) rfl rfl ?_
    refine AA_y 0 rfl (by kernel_rfl) rfl rfl rfl (YJ_ixArr rfl rfl arrt_34 (by omega) (by omega) rfl) ?_
    refine AA_y 1 rfl (by kernel_rfl) rfl rfl rfl (YJ_loadL rfl tyi_3 m2 rfl) ?_
    refine AA_y 2 rfl (by kernel_rfl) rfl rfl rfl (YJ_andM 12 rfl rfl (by decide) (by decide)) ?_
    refine AA_y 3 rfl (by kernel_rfl) rfl rfl rfl (YJ_move rfl) ?_
    refine AA_y 4 rfl (by kernel_rfl) rfl rfl rfl (YJ_len rfl ulen_26 rfl) ?_
    refine AA_y 5 rfl (by kernel_rfl) rfl rfl rfl (YJ_rem rfl rfl (by first | decide | omega)) ?_
    refine AA_val (v := .int .i64 (a : Nat)) (congrArg (Value.int .i64) ha) ?_
    refine AA_y 6 rfl (by kernel_rfl) rfl rfl rfl (YJ_ixArr rfl rfl arrt_34 (by omega) (by omega) rfl) ?_
    refine AA_y 7 rfl (by kernel_rfl) rfl rfl rfl (YJ_loadL rfl tyi_3 m2 rfl) ?_
    refine AA_y 8 rfl (by kernel_rfl) rfl rfl rfl (YJ_andM 12 rfl rfl (by decide) (by decide)) ?_
    refine AA_y 9 rfl (by kernel_rfl) rfl rfl rfl (YJ_move rfl) ?_
    refine AA_y 10 rfl (by kernel_rfl) rfl rfl rfl (YJ_len rfl ulen_26 rfl) ?_
    refine AA_y 11 rfl (by kernel_rfl) rfl rfl rfl (YJ_rem rfl rfl (by first | decide | omega)) ?_
    refine AA_val (v := .int .i64 (b : Nat)) (congrArg (Value.int .i64) hb) ?_
    refine AA_y 12 rfl (by kernel_rfl) rfl rfl rfl (YJ_ixArr rfl rfl arrt_34 (by omega) (by omega) rfl) ?_
    refine AA_y 13 rfl (by kernel_rfl) rfl rfl rfl (YJ_loadL rfl tyi_3 m2 rfl) ?_
    refine AA_y 14 rfl (by kernel_rfl) rfl rfl rfl (YJ_andM 12 rfl rfl (by decide) (by decide)) ?_
    refine AA_y 15 rfl (by kernel_rfl) rfl rfl rfl (YJ_move rfl) ?_
    refine AA_y 16 rfl (by kernel_rfl) rfl rfl rfl (YJ_len rfl ulen_26 rfl) ?_
    refine AA_y 17 rfl (by kernel_rfl) rfl rfl rfl (YJ_rem rfl rfl (by first | decide | omega)) ?_
    refine AA_val (v := .int .i64 (c : Nat)) (congrArg (Value.int .i64) hc) ?_
    refine AA_end (by kernel_rfl) rfl ?_
    intro bs hbs
    obtain ⟨b6, b7, b8, rfl⟩ := len_3 hbs
    clear hbs
    show AJ _ _ _ _ _ _ _ ((8, .pointer (some ⟨b6, 0, none⟩)) :: (9, .pointer (some ⟨b7, 0, none⟩)) :: (10, .pointer (some ⟨b8, 0, none⟩)) :: _) (cellsR b6 _ _ :: cellsR b7 _ _ :: cellsR b8 _ _ :: _) _
    refine AJ_store (cs' := #[_]) (μ' := [_, _, _, _, _, _]) 21 0 rfl (by kernel_rfl) rfl rfl rfl rfl tyi_3 rfl (Nat.le_of_ble_eq_true rfl) rfl rfl rfl (fun _ => AllIn.sub (And.intro m3 (And.intro m4 (And.intro m5 (trivial))))) ?_
    refine AJ_store (cs' := #[_]) (μ' := [_, _, _, _, _, _]) 22 1 rfl (by kernel_rfl) rfl rfl rfl rfl tyi_3 rfl (Nat.le_of_ble_eq_true rfl) rfl rfl rfl (fun _ => AllIn.sub (And.intro m3 (And.intro m4 (And.intro m5 (trivial))))) ?_
    refine AJ_store (cs' := #[_]) (μ' := [_, _, _, _, _, _]) 23 2 rfl (by kernel_rfl) rfl rfl rfl rfl tyi_3 rfl (Nat.le_of_ble_eq_true rfl) rfl rfl rfl (fun _ => AllIn.sub (And.intro m3 (And.intro m4 (And.intro m5 (trivial))))) ?_
    refine AJ_done (by kernel_rfl) ?_
    refine QJ_then ?_
    refine CJ_seq ?_
    refine CJ_reg ?_
    refine LJ_y rfl rfl (YJ_loadL rfl tyi_26 m3 rfl) ?_
    refine LJ_y rfl rfl (YJ_loadL rfl tyi_3 m0 rfl) ?_
    refine LJ_y rfl rfl (YJ_loadL rfl tyi_3 m1 rfl) ?_
    refine LJ_y rfl rfl (YJ_loadL rfl tyi_3 m2 rfl) ?_
    rcases Classical.em (pA qs a b c = 0) with hA | hA
    ·skip
     refine LJ_call0 rfl rfl rfl rfl rfl (new_bad (by omega) hal hbl hcl hP hA) (AllIn.sub (by first | exact trivial | exact And.intro m0 trivial | exact And.intro (by repeat first | exact .head _ | apply List.Mem.tail) (And.intro (by repeat first | exact .head _ | apply List.Mem.tail) trivial))) ?_
     refine LJ_y rfl rfl (YJ_move rfl) ?_
     refine LJ_y rfl rfl (YJ_extract rfl rfl) ?_
     refine LJ_y rfl rfl (YJ_extract rfl rfl) ?_
     refine LJ_alloc (cs := #[_]) rfl rfl zer_28 rfl ?_
     intro b9
     refine LJ_store (cs' := #[_]) (μ' := [_, _, _, _, _, _, _]) 0 rfl rfl rfl rfl tyi_28 rfl (Nat.le_of_ble_eq_true rfl) rfl rfl rfl ?_
     refine LJ_y rfl rfl (YJ_assign rfl) ?_
     refine LJ_nil ?_
     refine QJ_then ?_
     refine CJ_seq ?_
     refine CJ_seq ?_
     refine CJ_regD mix (by kernel_rfl) (fun _ _ _ _ _ h => h) _ _ (fun _ h => h) (fun _ h => h) ?_
     refine AJ_y 0 rfl (by kernel_rfl) (by kernel_rfl) rfl rfl (YJ_move rfl) ?_
     refine AJ_y 1 rfl (by kernel_rfl) (by kernel_rfl) rfl rfl (YJ_loadL rfl tyi_26 m4 rfl) ?_
     refine AJ_y 2 rfl (by kernel_rfl) (by kernel_rfl) rfl rfl (YJ_loadL rfl tyi_3 m1 rfl) ?_
     refine AJ_y 3 rfl (by kernel_rfl) (by kernel_rfl) rfl rfl (YJ_ixFact (n' := qs.length) rfl rfl elt_26 m0 (by decide) (by omega) (by omega) (by omega)) ?_
     refine AJ_y 4 rfl (by kernel_rfl) (by kernel_rfl) rfl rfl (YJ_loadFactN (vs := [_, _]) (xs := ptCells qs) rfl tyi_23 m0 (ptCells_get (i := a) (by omega)) rfl) ?_
     refine AJ_y 5 rfl (by kernel_rfl) (by kernel_rfl) rfl rfl (YJ_loadL rfl tyi_26 m4 rfl) ?_
     refine AJ_y 6 rfl (by kernel_rfl) (by kernel_rfl) rfl rfl (YJ_loadL rfl tyi_3 m2 rfl) ?_
     refine AJ_y 7 rfl (by kernel_rfl) (by kernel_rfl) rfl rfl (YJ_ixFact (n' := qs.length) rfl rfl elt_26 m0 (by decide) (by omega) (by omega) (by omega)) ?_
     refine AJ_y 8 rfl (by kernel_rfl) (by kernel_rfl) rfl rfl (YJ_loadFactN (vs := [_, _]) (xs := ptCells qs) rfl tyi_23 m0 (ptCells_get (i := b) (by omega)) rfl) ?_
     refine AJ_y 9 rfl (by kernel_rfl) (by kernel_rfl) rfl rfl (YJ_loadL rfl tyi_26 m4 rfl) ?_
     refine AJ_y 10 rfl (by kernel_rfl) (by kernel_rfl) rfl rfl (YJ_loadL rfl tyi_3 m3 rfl) ?_
     refine AJ_y 11 rfl (by kernel_rfl) (by kernel_rfl) rfl rfl (YJ_ixFact (n' := qs.length) rfl rfl elt_26 m0 (by decide) (by omega) (by omega) (by omega)) ?_
     refine AJ_y 12 rfl (by kernel_rfl) (by kernel_rfl) rfl rfl (YJ_loadFactN (vs := [_, _]) (xs := ptCells qs) rfl tyi_23 m0 (ptCells_get (i := c) (by omega)) rfl) ?_
     refine AJ_call0 13 rfl (by kernel_rfl) rfl rfl rfl rfl rfl (orient_c (hP a hal) (hP b hbl) (hP c hcl)) (AllIn.sub (by first | exact trivial | exact And.intro (by repeat first | exact .head _ | apply List.Mem.tail) trivial | exact And.intro (by repeat first | exact .head _ | apply List.Mem.tail) (And.intro (by repeat first | exact .head _ | apply List.Mem.tail) trivial))) ?_
     refine AJ_y 14 rfl (by kernel_rfl) (by kernel_rfl) rfl rfl (YJ_bin rfl rfl rfl) ?_
     refine AJ_val (v := .bool false) (congrArg Value.bool (by rw [decide_eq_true (sgn_zero.2 hA)]; rfl)) ?_
     refine AJ_y 15 rfl (by kernel_rfl) (by kernel_rfl) rfl rfl (YJ_neb rfl rfl ubool_4) ?_
     refine AJ_done (by kernel_rfl) ?_
     refine QJ_then ?_
     refine CJ_condF rfl ?_
     refine CJ_skip ?_
     refine QJ_then ?_
     refine CJ_seq ?_
     refine CJ_seq ?_
     refine CJ_reg ?_
     refine LJ_y rfl rfl (YJ_move rfl) ?_
     refine LJ_y rfl rfl (YJ_not rfl) ?_
     refine LJ_nil ?_
     refine QJ_then ?_
     refine CJ_condT rfl ?_
     refine CJ_seq ?_
     refine CJ_reg ?_
     refine LJ_y rfl rfl (YJ_loadL rfl tyi_28 m0 rfl) ?_
     refine LJ_y rfl rfl (YJ_eqs rfl rfl (fun w => eqs_nil ..)) ?_
     refine LJ_store (cs' := #[_]) (μ' := [_, _, _, _, _, _, _]) 5 rfl rfl rfl rfl tyi_4 rfl (Nat.le_of_ble_eq_true rfl) rfl rfl rfl ?_
     refine LJ_nil ?_
     refine QJ_then ?_
     refine CJ_ret ?_
     refine QJ_then_ret ?_
     refine QJ_finM (.inl rfl) [] rfl (μ' := []) (μr := [_, _, _, _, _, _, _]) (φ' := []) (res_cell1 rfl rfl m5 tyi_4) (permI [] rfl) (fun _ h => nomatch h) ?_
     exact ⟨rfl, rfl, rfl⟩
    ·skip
     obtain ⟨e, f, hef, hA1, hNew⟩ := new_ok (A := A0) (cp := c0) (by omega) hal hbl hcl hP hA
     have hel : e < qs.length := by omega
     have hfl : f < qs.length := by omega
     obtain ⟨n1, n2, n3⟩ := pA_ne hA1
     refine LJ_callN rfl rfl rfl rfl rfl hNew (AllIn.sub (And.intro m0 trivial)) ?_
     intro B9 _
     refine LJ_lendMesh (fun hm hmF hmA => ?_)
     refine LJ_y rfl rfl (YJ_move rfl) ?_
     refine LJ_y rfl rfl (YJ_extract rfl rfl) ?_
     refine LJ_y rfl rfl (YJ_extract rfl rfl) ?_
     refine LJ_alloc (cs := #[_]) rfl rfl zer_28 rfl ?_
     intro b10
     refine LJ_store (cs' := #[_]) (μ' := [_, _, _, _, _, _, _]) 0 rfl rfl rfl rfl tyi_28 rfl (Nat.le_of_ble_eq_true rfl) rfl rfl rfl ?_
     refine LJ_y rfl rfl (YJ_assign rfl) ?_
     refine LJ_nil ?_
     refine QJ_then ?_
     refine CJ_seq ?_
     refine CJ_seq ?_
     refine CJ_regD mix (by kernel_rfl) (fun _ _ _ _ _ h => h) _ _ (fun _ h => h) (fun _ h => h) ?_
     refine AJ_y 0 rfl (by kernel_rfl) (by kernel_rfl) rfl rfl (YJ_move rfl) ?_
     refine AJ_y 1 rfl (by kernel_rfl) (by kernel_rfl) rfl rfl (YJ_loadL rfl tyi_26 m4 rfl) ?_
     refine AJ_y 2 rfl (by kernel_rfl) (by kernel_rfl) rfl rfl (YJ_loadL rfl tyi_3 m1 rfl) ?_
     refine AJ_y 3 rfl (by kernel_rfl) (by kernel_rfl) rfl rfl (YJ_ixFact (n' := qs.length) rfl rfl elt_26 m6 (by decide) (by omega) (by omega) (by omega)) ?_
     refine AJ_y 4 rfl (by kernel_rfl) (by kernel_rfl) rfl rfl (YJ_loadFactN (vs := [_, _]) (xs := ptCells qs) rfl tyi_23 m6 (ptCells_get (i := a) (by omega)) rfl) ?_
     refine AJ_y 5 rfl (by kernel_rfl) (by kernel_rfl) rfl rfl (YJ_loadL rfl tyi_26 m4 rfl) ?_
     refine AJ_y 6 rfl (by kernel_rfl) (by kernel_rfl) rfl rfl (YJ_loadL rfl tyi_3 m2 rfl) ?_
     refine AJ_y 7 rfl (by kernel_rfl) (by kernel_rfl) rfl rfl (YJ_ixFact (n' := qs.length) rfl rfl elt_26 m6 (by decide) (by omega) (by omega) (by omega)) ?_
     refine AJ_y 8 rfl (by kernel_rfl) (by kernel_rfl) rfl rfl (YJ_loadFactN (vs := [_, _]) (xs := ptCells qs) rfl tyi_23 m6 (ptCells_get (i := b) (by omega)) rfl) ?_
     refine AJ_y 9 rfl (by kernel_rfl) (by kernel_rfl) rfl rfl (YJ_loadL rfl tyi_26 m4 rfl) ?_
     refine AJ_y 10 rfl (by kernel_rfl) (by kernel_rfl) rfl rfl (YJ_loadL rfl tyi_3 m3 rfl) ?_
     refine AJ_y 11 rfl (by kernel_rfl) (by kernel_rfl) rfl rfl (YJ_ixFact (n' := qs.length) rfl rfl elt_26 m6 (by decide) (by omega) (by omega) (by omega)) ?_
     refine AJ_y 12 rfl (by kernel_rfl) (by kernel_rfl) rfl rfl (YJ_loadFactN (vs := [_, _]) (xs := ptCells qs) rfl tyi_23 m6 (ptCells_get (i := c) (by omega)) rfl) ?_
     refine AJ_call0 13 rfl (by kernel_rfl) rfl rfl rfl rfl rfl (orient_c (hP a hal) (hP b hbl) (hP c hcl)) (AllIn.sub (by first | exact trivial | exact And.intro (by repeat first | exact .head _ | apply List.Mem.tail) trivial | exact And.intro (by repeat first | exact .head _ | apply List.Mem.tail) (And.intro (by repeat first | exact .head _ | apply List.Mem.tail) trivial))) ?_
     refine AJ_y 14 rfl (by kernel_rfl) (by kernel_rfl) rfl rfl (YJ_bin rfl rfl rfl) ?_
     refine AJ_val (v := .bool true) (congrArg Value.bool (by rw [decide_eq_false (fun q => hA (sgn_zero.1 q))]; rfl)) ?_
     refine AJ_y 15 rfl (by kernel_rfl) (by kernel_rfl) rfl rfl (YJ_neb rfl rfl ubool_4) ?_
     refine AJ_done (by kernel_rfl) ?_
     refine QJ_then ?_
     refine CJ_condF rfl ?_
     refine CJ_skip ?_
     refine QJ_then ?_
     refine CJ_seq ?_
     refine CJ_seq ?_
     refine CJ_reg ?_
     refine LJ_y rfl rfl (YJ_move rfl) ?_
     refine LJ_y rfl rfl (YJ_not rfl) ?_
     refine LJ_nil ?_
     refine QJ_then ?_
     refine CJ_condF rfl ?_
     refine CJ_skip ?_
     refine QJ_then ?_
     refine CJ_seq ?_
     refine CJ_reg ?_
     refine LJ_alloc (cs := #[_]) rfl rfl zer_3 rfl ?_
     intro b11
     refine LJ_store (cs' := #[_]) (μ' := [_, _, _, _, _, _, _, _]) 0 rfl rfl rfl rfl tyi_3 rfl (Nat.le_of_ble_eq_true rfl) rfl rfl rfl ?_
     refine LJ_nil ?_
     refine QJ_then ?_
     refine CJ_seq ?_
     refine CJ_seq ?_
     refine CJ_reg ?_
     refine LJ_y rfl rfl (YJ_loadL rfl tyi_28 m1 rfl) ?_
     refine LJ_callX rfl rfl rfl rfl rfl (all_c (B := B9)) (fun _ h => nomatch h) ?_
     intro bA _
     refine LJ_nil ?_
     refine QJ_then ?_
     refine CJ_block ?_
     refine CJ_rangeFunc (μr := [_, _]) rfl (all_it (h := hm) (pts := qs) (tris := triNew a e f) (show 4 ≤ 1073741824 by decide)) (all_sub (fun r h => frz_mesh r h)) (fun _ => rfl) (by kernel_rfl) (L := { ι := Unit, I := fun _ _ => True, F := fun pre _ => ([cellsR b11 #[.int .i64 (pre.length : Nat)] 3, cellsR b10 #[.pointer (some ⟨B9, 0, none⟩)] 28, cellsR b6 #[.int .i64 (a : Nat)] 3, cellsR b7 #[.int .i64 (b : Nat)] 3, cellsR b8 #[.int .i64 (c : Nat)] 3, cellsR b3 #[.slice A0 qs.length c0] 26], []), κ := Unit, Ix := fun _ _ _ => False, Fx := fun _ _ => ([], []) }) () trivial (permI [] rfl) (fun _ h => nomatch h) ?_ ?_ ?_
     ·intro lR DR fnR tmpsR WR SR TR pre xR iR hpre hI
      obtain ⟨n, t⟩ := xR
      obtain ⟨rfl, rfl, rfl⟩ := new_pre hpre
      show RJ _ _ _ _ _ ((89, _) :: (88, _) :: _) (objR lR _ :: defR DR :: cellsR b11 #[.int .i64 ((([] : List (Nat × Tr)).length : Nat) : Int)] 3 :: cellsR b10 #[.pointer (some ⟨B9, 0, none⟩)] 28 :: cellsR b6 #[.int .i64 (a : Nat)] 3 :: cellsR b7 #[.int .i64 (b : Nat)] 3 :: cellsR b8 #[.int .i64 (c : Nat)] 3 :: cellsR b3 #[.slice A0 qs.length c0] 26 :: []) _
      refine RJ_seq ?_
      refine RJ_reg (by kernel_rfl) ?_
      refine LJ_y rfl rfl (YJ_assign rfl) ?_
      refine LJ_nil ?_
      refine QJ_thenR (by repeat with_reducible first | exact no_round | exact no_begin | apply no_then | apply no_block) ?_
      refine RJ_reg (by kernel_rfl) ?_
      refine LJ_alloc (cs := #[_, _, _, _, _, _, _, _, _]) rfl rfl zer_37 rfl ?_
      intro b12
      refine LJ_store (cs' := #[_, _, _, _, _, _, _, _, _]) (μ' := [_, _, _, _, _, _, _, _, _]) 0 rfl rfl rfl rfl tyi_37 rfl (Nat.le_of_ble_eq_true rfl) rfl (wr_all rfl) rfl ?_
      refine LJ_nil ?_
      refine QJ_begin (μr := [_, _, _, _, _, _, _, _]) (permI [1] rfl) ?_
      refine RJ_block ?_
      refine RJ_seq ?_
      refine RJ_reg (by kernel_rfl) ?_
      refine LJ_y rfl rfl (YJ_loadL rfl tyi_3 m3 rfl) ?_
      refine LJ_y rfl rfl (YJ_bin rfl rfl rfl) ?_
      refine LJ_store (cs' := #[_]) (μ' := [_, _, _, _, _, _, _, _, _]) 3 rfl rfl rfl rfl tyi_3 rfl (Nat.le_of_ble_eq_true rfl) rfl rfl rfl ?_
      refine LJ_nil ?_
      refine QJ_thenR (by repeat with_reducible first | exact no_round | exact no_begin | apply no_then | apply no_block) ?_
      refine RJ_seq ?_
      refine RJ_regD mix (by kernel_rfl) (fun _ _ _ _ _ h => h) _ _ (fun _ h => h) (fun _ h => h) (by kernel_rfl) ?_
      refine AJ_y 0 rfl (by kernel_rfl) (by kernel_rfl) rfl rfl (YJ_loadL rfl tyi_28 m4 rfl) ?_
      refine AJ_y 1 rfl (by kernel_rfl) (by kernel_rfl) rfl rfl (YJ_move rfl) ?_
      refine AJ_call0 2 rfl (by kernel_rfl) rfl rfl rfl rfl rfl (real_c (h := hm) (pts := qs) (tris := triNew a e f)) (fun r h => .tail _ (frz_mesh r h)) ?_
      refine AJ_val (v := .bool true) (congrArg Value.bool (decide_eq_true ⟨Int.le_refl 0, _, rfl, by simp [Tr.real]⟩)) ?_
      refine AJ_bool (c := true) rfl ?_
      refine AJ_y 3 rfl (by kernel_rfl) (by kernel_rfl) rfl rfl (YJ_not rfl) ?_
      refine AJ_y 4 rfl (by kernel_rfl) (by kernel_rfl) rfl rfl (YJ_move rfl) ?_
      refine AJ_bool (c := false) rfl ?_
      refine AJ_y 5 rfl (by kernel_rfl) (by kernel_rfl) rfl rfl (YJ_loadN (vs := [_, _, _, _, _, _, _, _, _]) rfl tyi_37 m1 rfl rfl) ?_
      refine AJ_y 6 rfl (by kernel_rfl) (by kernel_rfl) rfl rfl (YJ_loadL rfl tyi_3 m5 rfl) ?_
      obtain ⟨p1, hp1⟩ := plc_some (t := (⟨(a : Nat), (e : Nat), (f : Nat), 1, 2, 3, false, false, false⟩ : Tr)) (v := (a : Int)) (.inl rfl)
      obtain ⟨p2, hp2⟩ := plc_some (t := (⟨(a : Nat), (e : Nat), (f : Nat), 1, 2, 3, false, false, false⟩ : Tr)) (v := (b : Int)) (by dsimp only; omega)
      obtain ⟨p3, hp3⟩ := plc_some (t := (⟨(a : Nat), (e : Nat), (f : Nat), 1, 2, 3, false, false, false⟩ : Tr)) (v := (c : Int)) (by dsimp only; omega)
      refine AJ_call0 7 rfl (by kernel_rfl) rfl rfl rfl rfl rfl (has_c (t := (⟨(a : Nat), (e : Nat), (f : Nat), 1, 2, 3, false, false, false⟩ : Tr)) (v := (a : Int))) (fun _ h => nomatch h) ?_
      refine AJ_val (v := .int .i64 (p1 : Nat)) (congrArg (Value.int .i64) hp1) ?_
      refine AJ_y 8 rfl (by kernel_rfl) (by kernel_rfl) rfl rfl (YJ_bin rfl rfl rfl) ?_
      refine AJ_val (v := .bool false) (congrArg Value.bool (decide_eq_false (by omega))) ?_
      refine AJ_bool (c := false) rfl ?_
      refine AJ_y 9 rfl (by kernel_rfl) (by kernel_rfl) rfl rfl (YJ_pickF rfl rfl) ?_
      refine AJ_y 10 rfl (by kernel_rfl) (by kernel_rfl) rfl rfl (YJ_move rfl) ?_
      refine AJ_bool (c := false) rfl ?_
      refine AJ_y 11 rfl (by kernel_rfl) (by kernel_rfl) rfl rfl (YJ_loadN (vs := [_, _, _, _, _, _, _, _, _]) rfl tyi_37 m1 rfl rfl) ?_
      refine AJ_y 12 rfl (by kernel_rfl) (by kernel_rfl) rfl rfl (YJ_loadL rfl tyi_3 m6 rfl) ?_
      refine AJ_call0 13 rfl (by kernel_rfl) rfl rfl rfl rfl rfl (has_c (t := (⟨(a : Nat), (e : Nat), (f : Nat), 1, 2, 3, false, false, false⟩ : Tr)) (v := (b : Int))) (fun _ h => nomatch h) ?_
      refine AJ_val (v := .int .i64 (p2 : Nat)) (congrArg (Value.int .i64) hp2) ?_
      refine AJ_y 14 rfl (by kernel_rfl) (by kernel_rfl) rfl rfl (YJ_bin rfl rfl rfl) ?_
      refine AJ_val (v := .bool false) (congrArg Value.bool (decide_eq_false (by omega))) ?_
      refine AJ_bool (c := false) rfl ?_
      refine AJ_y 15 rfl (by kernel_rfl) (by kernel_rfl) rfl rfl (YJ_pickF rfl rfl) ?_
      refine AJ_y 16 rfl (by kernel_rfl) (by kernel_rfl) rfl rfl (YJ_move rfl) ?_
      refine AJ_bool (c := false) rfl ?_
      refine AJ_y 17 rfl (by kernel_rfl) (by kernel_rfl) rfl rfl (YJ_loadN (vs := [_, _, _, _, _, _, _, _, _]) rfl tyi_37 m1 rfl rfl) ?_
      refine AJ_y 18 rfl (by kernel_rfl) (by kernel_rfl) rfl rfl (YJ_loadL rfl tyi_3 m7 rfl) ?_
      refine AJ_call0 19 rfl (by kernel_rfl) rfl rfl rfl rfl rfl (has_c (t := (⟨(a : Nat), (e : Nat), (f : Nat), 1, 2, 3, false, false, false⟩ : Tr)) (v := (c : Int))) (fun _ h => nomatch h) ?_
      refine AJ_val (v := .int .i64 (p3 : Nat)) (congrArg (Value.int .i64) hp3) ?_
      refine AJ_y 20 rfl (by kernel_rfl) (by kernel_rfl) rfl rfl (YJ_bin rfl rfl rfl) ?_
      refine AJ_val (v := .bool false) (congrArg Value.bool (decide_eq_false (by omega))) ?_
      refine AJ_bool (c := false) rfl ?_
      refine AJ_y 21 rfl (by kernel_rfl) (by kernel_rfl) rfl rfl (YJ_pickF rfl rfl) ?_
      refine AJ_y 22 rfl (by kernel_rfl) (by kernel_rfl) rfl rfl (YJ_move rfl) ?_
      refine AJ_bool (c := false) rfl ?_
      refine AJ_y 23 rfl (by kernel_rfl) (by kernel_rfl) rfl rfl (YJ_loadL rfl tyi_26 m8 rfl) ?_
      refine AJ_y 24 rfl (by kernel_rfl) (by kernel_rfl) rfl rfl (YJ_fieldOwn rfl fld_37_0 rfl) ?_
      refine AJ_y 25 rfl (by kernel_rfl) (by kernel_rfl) rfl rfl (YJ_ixArr rfl rfl arrt_34 (by omega) (by omega) rfl) ?_
      refine AJ_y 26 rfl (by kernel_rfl) (by kernel_rfl) rfl rfl (YJ_loadL rfl tyi_3 m1 rfl) ?_
      refine AJ_val (v := .int .i64 (a : Nat)) (rfl) ?_
      refine AJ_y 27 rfl (by kernel_rfl) (by kernel_rfl) rfl rfl (YJ_ixFact (n' := qs.length) rfl rfl elt_26 m7 (by decide) (by omega) (by omega) (by omega)) ?_
      refine AJ_y 28 rfl (by kernel_rfl) (by kernel_rfl) rfl rfl (YJ_loadFactN (vs := [_, _]) (xs := ptCells qs) rfl tyi_23 m7 (ptCells_get (i := a) (by omega)) rfl) ?_
      refine AJ_y 29 rfl (by kernel_rfl) (by kernel_rfl) rfl rfl (YJ_loadL rfl tyi_26 m8 rfl) ?_
      refine AJ_y 30 rfl (by kernel_rfl) (by kernel_rfl) rfl rfl (YJ_fieldOwn rfl fld_37_0 rfl) ?_
      refine AJ_y 31 rfl (by kernel_rfl) (by kernel_rfl) rfl rfl (YJ_ixArr rfl rfl arrt_34 (by omega) (by omega) rfl) ?_
      refine AJ_y 32 rfl (by kernel_rfl) (by kernel_rfl) rfl rfl (YJ_loadL rfl tyi_3 m1 rfl) ?_
      refine AJ_val (v := .int .i64 (e : Nat)) (rfl) ?_
      refine AJ_y 33 rfl (by kernel_rfl) (by kernel_rfl) rfl rfl (YJ_ixFact (n' := qs.length) rfl rfl elt_26 m7 (by decide) (by omega) (by omega) (by omega)) ?_
      refine AJ_y 34 rfl (by kernel_rfl) (by kernel_rfl) rfl rfl (YJ_loadFactN (vs := [_, _]) (xs := ptCells qs) rfl tyi_23 m7 (ptCells_get (i := e) (by omega)) rfl) ?_
      refine AJ_y 35 rfl (by kernel_rfl) (by kernel_rfl) rfl rfl (YJ_loadL rfl tyi_26 m8 rfl) ?_
      refine AJ_y 36 rfl (by kernel_rfl) (by kernel_rfl) rfl rfl (YJ_fieldOwn rfl fld_37_0 rfl) ?_
      refine AJ_y 37 rfl (by kernel_rfl) (by kernel_rfl) rfl rfl (YJ_ixArr rfl rfl arrt_34 (by omega) (by omega) rfl) ?_
      refine AJ_y 38 rfl (by kernel_rfl) (by kernel_rfl) rfl rfl (YJ_loadL rfl tyi_3 m1 rfl) ?_
      refine AJ_val (v := .int .i64 (f : Nat)) (rfl) ?_
      refine AJ_y 39 rfl (by kernel_rfl) (by kernel_rfl) rfl rfl (YJ_ixFact (n' := qs.length) rfl rfl elt_26 m7 (by decide) (by omega) (by omega) (by omega)) ?_
      refine AJ_y 40 rfl (by kernel_rfl) (by kernel_rfl) rfl rfl (YJ_loadFactN (vs := [_, _]) (xs := ptCells qs) rfl tyi_23 m7 (ptCells_get (i := f) (by omega)) rfl) ?_
      refine AJ_call0 41 rfl (by kernel_rfl) rfl rfl rfl rfl rfl (orient_c (hP a hal) (hP e hel) (hP f hfl)) (AllIn.sub (by first | exact trivial | exact And.intro (by repeat first | exact .head _ | apply List.Mem.tail) trivial | exact And.intro (by repeat first | exact .head _ | apply List.Mem.tail) (And.intro (by repeat first | exact .head _ | apply List.Mem.tail) trivial))) ?_
      refine AJ_val (v := .int .i64 1) (congrArg (Value.int .i64) (show sgn (pA qs a e f) = 1 by have := sgn_pos.2 hA1; have := sgn_cases (pA qs a e f); omega)) ?_
      refine AJ_y 42 rfl (by kernel_rfl) (by kernel_rfl) rfl rfl (YJ_bin rfl rfl rfl) ?_
      refine AJ_val (v := .bool false) (rfl) ?_
      refine AJ_y 43 rfl (by kernel_rfl) (by kernel_rfl) rfl rfl (YJ_pickF rfl rfl) ?_
      refine AJ_done (by kernel_rfl) ?_
      refine QJ_thenR (by repeat with_reducible first | exact no_round | exact no_begin | apply no_then | apply no_block) ?_
      refine RJ_condF rfl ?_
      refine RJ_skip ?_
      refine QJ_in_normal ?_
      refine QJ_again (μ1 := [_, _, _, _, _, _, _]) (μ2 := [_]) (φ1 := []) (permI [0, 1, 1, 1, 1, 1, 1, 1] rfl) (fun _ h => nomatch h) ?_
      exact .inl ⟨rfl, (), trivial, rfl, rfl⟩
     ·intro D0 iR hI
      skip
      show QJ _ _ _ _ (defR D0 :: cellsR b11 #[.int .i64 (((reals (triNew a e f)).length : Nat) : Int)] 3 :: cellsR b10 #[.pointer (some ⟨B9, 0, none⟩)] 28 :: cellsR b6 #[.int .i64 (a : Nat)] 3 :: cellsR b7 #[.int .i64 (b : Nat)] 3 :: cellsR b8 #[.int .i64 (c : Nat)] 3 :: cellsR b3 #[.slice A0 qs.length c0] 26 :: _) _
      refine QJ_in_normal ?_
      refine QJ_then ?_
      refine CJ_seq ?_
      refine CJ_seq ?_
      refine CJ_reg ?_
      refine LJ_y rfl rfl (YJ_loadL rfl tyi_26 m6 rfl) ?_
      refine LJ_y rfl rfl (YJ_len rfl ulen_26 rfl) ?_
      refine LJ_y rfl rfl (YJ_move rfl) ?_
      refine LJ_nil ?_
      refine QJ_then ?_
      refine CJ_block ?_
      refine CJ_loopF (F := fun (i : Nat) => ⟨[(0, .slice A qs.length cd), (4, .pointer (some ⟨b2, 0, none⟩)), (8, .pointer (some ⟨b6, 0, none⟩)), (9, .pointer (some ⟨b7, 0, none⟩)), (10, .pointer (some ⟨b8, 0, none⟩)), (11, .pointer (some ⟨b10, 0, none⟩)), (13, .pointer (some ⟨b11, 0, none⟩)), (137, .int .i64 qs.length), (138, .int .i64 (i : Nat))], [], []⟩) (I := fun (i : Nat) => i ≤ qs.length) (m := fun (i : Nat) => qs.length - i) 0 (μr := [_, _, _, _, _, _, _, _, _]) (Nat.zero_le _) (And.intro rfl (And.intro rfl (And.intro rfl (And.intro rfl (And.intro rfl (And.intro rfl (And.intro rfl (And.intro rfl (And.intro rfl (trivial)))))))))) (permI [] rfl) (fun _ h => nomatch h) ?_
      rintro vv hvv
      try dsimp only at hvv
      show CJ _ _ _ [(0, .slice A qs.length cd), (4, .pointer (some ⟨b2, 0, none⟩)), (8, .pointer (some ⟨b6, 0, none⟩)), (9, .pointer (some ⟨b7, 0, none⟩)), (10, .pointer (some ⟨b8, 0, none⟩)), (11, .pointer (some ⟨b10, 0, none⟩)), (13, .pointer (some ⟨b11, 0, none⟩)), (137, .int .i64 qs.length), (138, .int .i64 (vv : Nat))] (_ :: _ :: _ :: _ :: _ :: _ :: _ :: _ :: _ :: _) _
      refine CJ_seq ?_
      refine CJ_reg ?_
      refine LJ_y rfl rfl (YJ_bin rfl rfl rfl) ?_
      refine LJ_nil ?_
      refine QJ_then ?_
      refine CJ_seq ?_
      refine CJ_cond rfl (fun h139 => ?_) (fun h139 => ?_)
      ·simp only [decide_eq_true_eq] at h139
       obtain ⟨x9, hx9, hx9i⟩ := new_atv (pts := qs) n1 n2 n3 (v := vv) (by omega)
       refine CJ_skip ?_
       refine QJ_then ?_
       refine CJ_seq ?_
       refine CJ_block ?_
       refine CJ_seq ?_
       refine CJ_reg ?_
       refine LJ_y rfl rfl (YJ_move rfl) ?_
       refine LJ_y rfl rfl (YJ_assign rfl) ?_
       refine LJ_nil ?_
       refine QJ_then ?_
       refine CJ_seq ?_
       refine CJ_regD mix (by kernel_rfl) (fun _ _ _ _ _ h => h) _ _ (fun _ h => h) (fun _ h => h) ?_
       refine AJ_y 0 rfl (by kernel_rfl) (by kernel_rfl) rfl rfl (YJ_loadL rfl tyi_28 m2 rfl) ?_
       refine AJ_y 1 rfl (by kernel_rfl) (by kernel_rfl) rfl rfl (YJ_move rfl) ?_
       refine AJ_y 4 rfl (by kernel_rfl) (by kernel_rfl) rfl rfl (YJ_move rfl) ?_
       refine AJ_y 5 rfl (by kernel_rfl) (by kernel_rfl) rfl rfl (YJ_loadL rfl tyi_3 m3 rfl) ?_
       refine AJ_y 6 rfl (by kernel_rfl) (by kernel_rfl) rfl rfl (YJ_bin rfl rfl rfl) ?_
       refine AJ_call0 2 rfl (by kernel_rfl) rfl rfl rfl rfl rfl (at9_c (h := hm) (pts := qs) (tris := triNew a e f) hmA (by rw [new_len]; omega) (Int.natCast_nonneg _) (by simpa using hx9)) (fun r h => .tail _ (frz_at r h)) ?_
       refine AJ_y 3 rfl (by kernel_rfl) (by kernel_rfl) rfl rfl (YJ_bin rfl rfl rfl) ?_
       refine AJ_val (v := .bool (decide (vv = a ∨ vv = b ∨ vv = c))) (congrArg Value.bool (by rw [decide_eq_decide]; constructor <;> intro _ <;> omega)) ?_
       refine AJ_y 7 rfl (by kernel_rfl) (by kernel_rfl) rfl rfl (YJ_move rfl) ?_
       refine AJ_boolC (fun h148 => ?_) (fun h148 => ?_)
       ·simp only [decide_eq_true_eq] at h148
        refine AJ_skip 8 rfl (by kernel_rfl) (by kernel_rfl) rfl rfl ?_
        refine AJ_skip 9 rfl (by kernel_rfl) (by kernel_rfl) rfl rfl ?_
        refine AJ_skip 10 rfl (by kernel_rfl) (by kernel_rfl) rfl rfl ?_
        refine AJ_y 11 rfl (by kernel_rfl) (by kernel_rfl) rfl rfl (YJ_pickT rfl rfl) ?_
        refine AJ_y 12 rfl (by kernel_rfl) (by kernel_rfl) rfl rfl (YJ_move rfl) ?_
        refine AJ_skip 13 rfl (by kernel_rfl) (by kernel_rfl) rfl rfl ?_
        refine AJ_skip 14 rfl (by kernel_rfl) (by kernel_rfl) rfl rfl ?_
        refine AJ_skip 15 rfl (by kernel_rfl) (by kernel_rfl) rfl rfl ?_
        refine AJ_y 16 rfl (by kernel_rfl) (by kernel_rfl) rfl rfl (YJ_pickT rfl rfl) ?_
        refine AJ_y 17 rfl (by kernel_rfl) (by kernel_rfl) rfl rfl (YJ_neb rfl rfl ubool_4) ?_
        refine AJ_val (v := .bool false) (congrArg Value.bool (by rw [decide_eq_true (show vv = a ∨ vv = b ∨ vv = c by omega)]; rfl)) ?_
        refine AJ_done (by kernel_rfl) ?_
        refine QJ_then ?_
        refine CJ_condF rfl ?_
        refine CJ_skip ?_
        refine QJ_in_normal ?_
        refine QJ_then ?_
        refine CJ_reg ?_
        refine LJ_y rfl rfl (YJ_bin rfl rfl (iop_add (by omega))) ?_
        refine LJ_y rfl rfl (YJ_move rfl) ?_
        refine LJ_nil ?_
        refine QJ_roundF (F := fun (i : Nat) => ⟨[(0, .slice A qs.length cd), (4, .pointer (some ⟨b2, 0, none⟩)), (8, .pointer (some ⟨b6, 0, none⟩)), (9, .pointer (some ⟨b7, 0, none⟩)), (10, .pointer (some ⟨b8, 0, none⟩)), (11, .pointer (some ⟨b10, 0, none⟩)), (13, .pointer (some ⟨b11, 0, none⟩)), (137, .int .i64 qs.length), (138, .int .i64 (i : Nat))], [], []⟩) (I := fun (i : Nat) => i ≤ qs.length) (m := fun (i : Nat) => qs.length - i) (i := vv) (vv + 1) (μd := []) (by omega) (by omega) (And.intro rfl (And.intro rfl (And.intro rfl (And.intro rfl (And.intro rfl (And.intro rfl (And.intro rfl (And.intro rfl (And.intro rfl (trivial)))))))))) (permI [] rfl) (fun _ h => nomatch h) (fun _ h => h)
       ·simp only [decide_eq_false_iff_not] at h148
        refine AJ_y 8 rfl (by kernel_rfl) (by kernel_rfl) rfl rfl (YJ_move rfl) ?_
        refine AJ_y 9 rfl (by kernel_rfl) (by kernel_rfl) rfl rfl (YJ_loadL rfl tyi_3 m4 rfl) ?_
        refine AJ_y 10 rfl (by kernel_rfl) (by kernel_rfl) rfl rfl (YJ_bin rfl rfl rfl) ?_
        refine AJ_y 11 rfl (by kernel_rfl) (by kernel_rfl) rfl rfl (YJ_pickF rfl rfl) ?_
        refine AJ_y 12 rfl (by kernel_rfl) (by kernel_rfl) rfl rfl (YJ_move rfl) ?_
        refine AJ_boolC (fun h153 => ?_) (fun h153 => ?_)
        ·simp only [decide_eq_true_eq] at h153
         refine AJ_skip 13 rfl (by kernel_rfl) (by kernel_rfl) rfl rfl ?_
         refine AJ_skip 14 rfl (by kernel_rfl) (by kernel_rfl) rfl rfl ?_
         refine AJ_skip 15 rfl (by kernel_rfl) (by kernel_rfl) rfl rfl ?_
         refine AJ_y 16 rfl (by kernel_rfl) (by kernel_rfl) rfl rfl (YJ_pickT rfl rfl) ?_
         refine AJ_y 17 rfl (by kernel_rfl) (by kernel_rfl) rfl rfl (YJ_neb rfl rfl ubool_4) ?_
         refine AJ_val (v := .bool false) (congrArg Value.bool (by rw [decide_eq_true (show vv = a ∨ vv = b ∨ vv = c by omega)]; rfl)) ?_
         refine AJ_done (by kernel_rfl) ?_
         refine QJ_then ?_
         refine CJ_condF rfl ?_
         refine CJ_skip ?_
         refine QJ_in_normal ?_
         refine QJ_then ?_
         refine CJ_reg ?_
         refine LJ_y rfl rfl (YJ_bin rfl rfl (iop_add (by omega))) ?_
         refine LJ_y rfl rfl (YJ_move rfl) ?_
         refine LJ_nil ?_
         refine QJ_roundF (F := fun (i : Nat) => ⟨[(0, .slice A qs.length cd), (4, .pointer (some ⟨b2, 0, none⟩)), (8, .pointer (some ⟨b6, 0, none⟩)), (9, .pointer (some ⟨b7, 0, none⟩)), (10, .pointer (some ⟨b8, 0, none⟩)), (11, .pointer (some ⟨b10, 0, none⟩)), (13, .pointer (some ⟨b11, 0, none⟩)), (137, .int .i64 qs.length), (138, .int .i64 (i : Nat))], [], []⟩) (I := fun (i : Nat) => i ≤ qs.length) (m := fun (i : Nat) => qs.length - i) (i := vv) (vv + 1) (μd := []) (by omega) (by omega) (And.intro rfl (And.intro rfl (And.intro rfl (And.intro rfl (And.intro rfl (And.intro rfl (And.intro rfl (And.intro rfl (And.intro rfl (trivial)))))))))) (permI [] rfl) (fun _ h => nomatch h) (fun _ h => h)
        ·simp only [decide_eq_false_iff_not] at h153
         refine AJ_y 13 rfl (by kernel_rfl) (by kernel_rfl) rfl rfl (YJ_move rfl) ?_
         refine AJ_y 14 rfl (by kernel_rfl) (by kernel_rfl) rfl rfl (YJ_loadL rfl tyi_3 m5 rfl) ?_
         refine AJ_y 15 rfl (by kernel_rfl) (by kernel_rfl) rfl rfl (YJ_bin rfl rfl rfl) ?_
         refine AJ_y 16 rfl (by kernel_rfl) (by kernel_rfl) rfl rfl (YJ_pickF rfl rfl) ?_
         refine AJ_y 17 rfl (by kernel_rfl) (by kernel_rfl) rfl rfl (YJ_neb rfl rfl ubool_4) ?_
         refine AJ_val (v := .bool false) (congrArg Value.bool (by rw [show decide (vv = a ∨ vv = b ∨ vv = c) = decide ((vv : Int) = c) from decide_eq_decide.2 (by constructor <;> intro _ <;> omega)]; simp)) ?_
         refine AJ_done (by kernel_rfl) ?_
         refine QJ_then ?_
         refine CJ_condF rfl ?_
         refine CJ_skip ?_
         refine QJ_in_normal ?_
         refine QJ_then ?_
         refine CJ_reg ?_
         refine LJ_y rfl rfl (YJ_bin rfl rfl (iop_add (by omega))) ?_
         refine LJ_y rfl rfl (YJ_move rfl) ?_
         refine LJ_nil ?_
         refine QJ_roundF (F := fun (i : Nat) => ⟨[(0, .slice A qs.length cd), (4, .pointer (some ⟨b2, 0, none⟩)), (8, .pointer (some ⟨b6, 0, none⟩)), (9, .pointer (some ⟨b7, 0, none⟩)), (10, .pointer (some ⟨b8, 0, none⟩)), (11, .pointer (some ⟨b10, 0, none⟩)), (13, .pointer (some ⟨b11, 0, none⟩)), (137, .int .i64 qs.length), (138, .int .i64 (i : Nat))], [], []⟩) (I := fun (i : Nat) => i ≤ qs.length) (m := fun (i : Nat) => qs.length - i) (i := vv) (vv + 1) (μd := []) (by omega) (by omega) (And.intro rfl (And.intro rfl (And.intro rfl (And.intro rfl (And.intro rfl (And.intro rfl (And.intro rfl (And.intro rfl (And.intro rfl (trivial)))))))))) (permI [] rfl) (fun _ h => nomatch h) (fun _ h => h)
      ·simp only [decide_eq_false_iff_not] at h139
       refine CJ_exit ?_
       refine QJ_then_exit ?_
       refine QJ_then_exit ?_
       refine QJ_in_exit ?_
       refine QJ_then ?_
       refine CJ_seq ?_
       refine CJ_thaw (r := meshR B9 (newM qs a e f)) m6 ?_
       refine CJ_reg ?_
       refine LJ_y rfl rfl (YJ_loadL rfl tyi_28 m3 rfl) ?_
       refine LJ_y rfl rfl (YJ_build1 (cs := [_, _]) lay_23 rfl rfl rfl) ?_
       refine LJ_call1 0 rfl rfl rfl rfl rfl rfl (add_c (p1 := 0) (p2 := 0) (by rw [newM_pts]; omega) (by rw [new_len]; omega)) (fun _ h => nomatch h) ?_
       show LJ _ _ _ _ _ (_ :: _ :: _ :: _ :: _ :: _ :: _ :: _ :: _ :: _ :: _) _
       refine LJ_val (v := .int .i64 qs.length) (rfl) ?_
       refine LJ_y rfl rfl (YJ_assign rfl) ?_
       refine LJ_nil ?_
       refine QJ_then ?_
       refine CJ_seq ?_
       obtain ⟨q2, hq2⟩ : ∃ q, qs ++ [((0 : Int), (0 : Int))] = q := ⟨_, rfl⟩
       have hql2 : q2.length = qs.length + 1 := by rw [← hq2, List.length_append]; rfl
       have hP2 := ok_app hP
       have hA2 : 0 < pA q2 a e f := by rw [← hq2, pA_app hal hel hfl]; exact hA1
       rw [new_add n1 n2 n3 hal hel hfl, hq2]
       rw [hq2] at hP2
       obtain ⟨x9, y9, w9, hh9, -, hx9⟩ := new_hull (pts := q2) n1 n2 n3 (by omega) (by omega) (by omega)
       have hat2 := new_at (pts := q2) n1 n2 n3 (v := qs.length) (by omega)
       rw [if_neg (by omega), if_neg (by omega), if_neg (by omega)] at hat2
       refine CJ_freezeMesh (fun hm2 hmF2 hmA2 => ?_)
       refine CJ_regD mix (by kernel_rfl) (fun _ _ _ _ _ h => h) (selR [0, 1, 2, 3, 4, 5, 6, 8] _) _ (selR_sub _ _) (fun _ h => h) ?_
       refine AJ_y 0 rfl (by kernel_rfl) (by kernel_rfl) rfl rfl (YJ_loadL rfl tyi_3 m1 rfl) ?_
       refine AJ_y 1 rfl (by kernel_rfl) (by kernel_rfl) rfl rfl (YJ_bin rfl rfl rfl) ?_
       refine AJ_val (v := .bool true) (rfl) ?_
       refine AJ_y 2 rfl (by kernel_rfl) (by kernel_rfl) rfl rfl (YJ_move rfl) ?_
       refine AJ_bool (c := true) rfl ?_
       refine AJ_y 3 rfl (by kernel_rfl) (by kernel_rfl) rfl rfl (YJ_loadL rfl tyi_28 m2 rfl) ?_
       refine AJ_y 4 rfl (by kernel_rfl) (by kernel_rfl) rfl rfl (YJ_nilCheck rfl) ?_
       refine AJ_y 5 rfl (by kernel_rfl) (by kernel_rfl) rfl rfl (YJ_fieldOwn rfl fld_57_1 rfl) ?_
       refine AJ_y 6 rfl (by kernel_rfl) (by kernel_rfl) rfl rfl (YJ_loadFactP (A := some ⟨B9, 0, none⟩) (j := 1) rfl rfl tyi_54 m0 rfl) ?_
       refine AJ_y 7 rfl (by kernel_rfl) (by kernel_rfl) rfl rfl (YJ_len rfl ulen_54 rfl) ?_
       refine AJ_y 8 rfl (by kernel_rfl) (by kernel_rfl) rfl rfl (YJ_bin rfl rfl rfl) ?_
       refine AJ_val (v := .bool true) (rfl) ?_
       refine AJ_y 9 rfl (by kernel_rfl) (by kernel_rfl) rfl rfl (YJ_pickT rfl rfl) ?_
       refine AJ_y 10 rfl (by kernel_rfl) (by kernel_rfl) rfl rfl (YJ_move rfl) ?_
       refine AJ_bool (c := true) rfl ?_
       refine AJ_y 11 rfl (by kernel_rfl) (by kernel_rfl) rfl rfl (YJ_loadL rfl tyi_28 m2 rfl) ?_
       refine AJ_call0 12 rfl (by kernel_rfl) rfl rfl rfl rfl rfl (new_sound hP2 (by omega) (by omega) (by omega) (by omega) hA2 hmA2) (fun r h => frz_at r h) ?_
       refine AJ_y 13 rfl (by kernel_rfl) (by kernel_rfl) rfl rfl (YJ_pickT rfl rfl) ?_
       refine AJ_y 14 rfl (by kernel_rfl) (by kernel_rfl) rfl rfl (YJ_move rfl) ?_
       refine AJ_bool (c := true) rfl ?_
       refine AJ_y 15 rfl (by kernel_rfl) (by kernel_rfl) rfl rfl (YJ_loadL rfl tyi_28 m2 rfl) ?_
       refine AJ_callX 16 rfl (by kernel_rfl) rfl rfl rfl rfl rfl (hull_c (h := hm2) (pts := q2) (tris := triNew a e f) (show 4 ≤ 1000000 by decide)) (fun r h => frz_mesh r h) ?_
       rintro ⟨A5, c5, l5⟩ h5
       dsimp only [List.nil_append] at h5 ⊢
       obtain rfl : l5 = [(x9 : Int), (y9 : Int), (w9 : Int)] := h5.trans hh9
       refine AJ_y 17 rfl (by kernel_rfl) (by kernel_rfl) rfl rfl (YJ_len rfl ulen_55 rfl) ?_
       refine AJ_y 18 rfl (by kernel_rfl) (by kernel_rfl) rfl rfl (YJ_bin rfl rfl rfl) ?_
       refine AJ_val (v := .bool true) (rfl) ?_
       refine AJ_y 19 rfl (by kernel_rfl) (by kernel_rfl) rfl rfl (YJ_pickT rfl rfl) ?_
       refine AJ_y 20 rfl (by kernel_rfl) (by kernel_rfl) rfl rfl (YJ_move rfl) ?_
       refine AJ_bool (c := true) rfl ?_
       refine AJ_y 21 rfl (by kernel_rfl) (by kernel_rfl) rfl rfl (YJ_loadL rfl tyi_28 m2 rfl) ?_
       refine AJ_y 25 rfl (by kernel_rfl) (by kernel_rfl) rfl rfl (YJ_loadL rfl tyi_3 m3 rfl) ?_
       refine AJ_y 26 rfl (by kernel_rfl) (by kernel_rfl) rfl rfl (YJ_loadL rfl tyi_3 m4 rfl) ?_
       refine AJ_y 27 rfl (by kernel_rfl) (by kernel_rfl) rfl rfl (YJ_loadL rfl tyi_3 m5 rfl) ?_
       refine AJ_y 28 rfl (by kernel_rfl) (by kernel_rfl) rfl rfl (YJ_min3 rfl rfl rfl) ?_
       refine AJ_callX 22 rfl (by kernel_rfl) rfl rfl rfl rfl rfl (hull_c (h := hm2) (pts := q2) (tris := triNew a e f) (show 4 ≤ 1000000 by decide)) (fun r h => .tail _ (frz_mesh r h)) ?_
       rintro ⟨A6, c6, l6⟩ h6
       dsimp only [List.nil_append] at h6 ⊢
       obtain rfl : l6 = [(x9 : Int), (y9 : Int), (w9 : Int)] := h6.trans hh9
       refine AJ_y1 23 rfl (by kernel_rfl) rfl rfl (YJ_ixFact (n' := [(x9 : Int), (y9 : Int), (w9 : Int)].length) rfl rfl elt_55 m0 (by decide) (by omega) (by simp) (by simp)) ?_
       refine AJ_y1 24 rfl (by kernel_rfl) rfl rfl (YJ_loadFactP (A := A6) (j := 0) rfl rfl tyi_3 m0 rfl) ?_
       refine AJ_y 29 rfl (by kernel_rfl) (by kernel_rfl) rfl rfl (YJ_bin rfl rfl rfl) ?_
       refine AJ_val (v := .bool true) (congrArg Value.bool (decide_eq_true (by omega))) ?_
       refine AJ_y 30 rfl (by kernel_rfl) (by kernel_rfl) rfl rfl (YJ_pickT rfl rfl) ?_
       refine AJ_y 31 rfl (by kernel_rfl) (by kernel_rfl) rfl rfl (YJ_move rfl) ?_
       refine AJ_bool (c := true) rfl ?_
       refine AJ_y 32 rfl (by kernel_rfl) (by kernel_rfl) rfl rfl (YJ_move rfl) ?_
       refine AJ_y 33 rfl (by kernel_rfl) (by kernel_rfl) rfl rfl (YJ_move rfl) ?_
       refine AJ_y 34 rfl (by kernel_rfl) (by kernel_rfl) rfl rfl (YJ_len rfl ulen_26 rfl) ?_
       refine AJ_y 35 rfl (by kernel_rfl) (by kernel_rfl) rfl rfl (YJ_bin rfl rfl rfl) ?_
       refine AJ_val (v := .bool true) (congrArg Value.bool (decide_eq_true (by omega))) ?_
       refine AJ_y 36 rfl (by kernel_rfl) (by kernel_rfl) rfl rfl (YJ_pickT rfl rfl) ?_
       refine AJ_y 37 rfl (by kernel_rfl) (by kernel_rfl) rfl rfl (YJ_move rfl) ?_
       refine AJ_bool (c := true) rfl ?_
       refine AJ_y 38 rfl (by kernel_rfl) (by kernel_rfl) rfl rfl (YJ_loadL rfl tyi_28 m2 rfl) ?_
       refine AJ_y 39 rfl (by kernel_rfl) (by kernel_rfl) rfl rfl (YJ_move rfl) ?_
       refine AJ_call0 40 rfl (by kernel_rfl) rfl rfl rfl rfl rfl (at9_c (v := (qs.length : Int)) (a := -1) (h := hm2) (pts := q2) (tris := triNew a e f) hmA2 (by rw [new_len]; omega) (Int.natCast_nonneg _) (by simpa using hat2)) (fun r h => .tail _ (.tail _ (frz_at r h))) ?_
       refine AJ_y 41 rfl (by kernel_rfl) (by kernel_rfl) rfl rfl (YJ_bin rfl rfl rfl) ?_
       refine AJ_val (v := .bool true) (congrArg Value.bool (decide_eq_true (by omega))) ?_
       refine AJ_y 42 rfl (by kernel_rfl) (by kernel_rfl) rfl rfl (YJ_pickT rfl rfl) ?_
       refine AJ_store (cs' := #[_]) (μ' := [_, _, _, _, _, _, _, _, _]) 43 7 rfl (by kernel_rfl) rfl rfl rfl rfl tyi_4 rfl (Nat.le_of_ble_eq_true rfl) rfl rfl rfl (fun _ => AllIn.sub (And.intro m0 (And.intro m1 (And.intro m2 (And.intro m3 (And.intro m4 (And.intro m5 (And.intro m6 (And.intro m8 (trivial)))))))))) ?_
       refine AJ_done (by kernel_rfl) ?_
       refine QJ_then ?_
       refine CJ_ret ?_
       refine QJ_finM (.inl rfl) [D0] rfl (μ' := []) (μr := [_, _, _, _, _, _, _, _]) (φ' := []) (res_cell1 rfl rfl m6 tyi_4) (permI [] rfl) (fun _ h => nomatch h) ?_
       exact ⟨rfl, rfl, rfl⟩
     ·exact fun _ _ _ _ _ h => h.elim
end Go.Proofs.Ytbanlhlggkdanaa
namespace Go.Proofs.Ytbanlhlggkdanaa
open Go.ChangeShapes Go.WideShapes Go.ChangeAt Go.RowKit Go.Joins
section
variable {H : Type} {enc : TypeId × Value → H} {P : Program}
theorem post_of_below' {f : Func} {s : ChangeSpec} {apart fresh handsOn again : Bool} {W W' : World} {args : Array Value} {v : Value} {ds gs : List (DataW H)} {before pa pv : List MemPlace}
  (hW : DataW.Whole enc P f.params.toList s.vars apart W args.toList ds gs before)
  (hres : ∀ (b : Nat) (sp : Nat → Bool) (hd : Bool), DataW.TrodAll enc P W' b sp hd f.resultTypes.toList (v.resultList f.resultTypes.size) (s.fn H (ds ++ gs)).results [])
  (hargs : ∀ sp : Nat → Bool, (∀ p ∈ before, sp p.block = true) → DataW.TrodAll enc P W' 0 sp true f.params.toList args.toList (s.fn H (ds ++ gs)).args pa)
  (hvars : ∀ sp : Nat → Bool, (∀ p ∈ before, sp p.block = true) → DataW.TrodVars enc P W' sp s.vars (s.fn H (ds ++ gs)).vars pv)
  (hps : before = pa ++ pv) (hb : Below W.heap.size W W')
  (hok : ∀ (j : Nat) (t : TypeId) (r : Value), f.resultTypes[j]? = some t → (v.resultList f.resultTypes.size)[j]? = some r → Value.okWide P W' .any 0 t r) :
  s.post enc P f apart fresh handsOn again W args v W' := by
 have hlt : ∀ p ∈ before, p.block < W.heap.size := fun p hp => hW.lt p hp
 have hold : ∀ p ∈ before, (fun b => decide (b < W.heap.size)) p.block = true := fun p hp => by simpa using hlt p hp
 refine ⟨ds, gs, before, [], pa, pv, hW, hres _ _ _, hargs _ hold, hvars _ hold, World.keptBut_mono (fun p hp => ⟨hp, ?_⟩) (hb.frame (· ∈ before)), fun _ => ?_⟩
 ·rw [hps, List.mem_append] at hp
  exact Or.inr hp
 ·obtain ⟨_, _, _, _, _, hz, hn⟩ := hW
  refine ⟨hok, _, _, ([] ++ pa) ++ pv, ⟨[] ++ pa, pv, trodAll_append (hargs _ (fun _ _ => rfl)) (hres _ _ _), hvars _ (fun _ _ => rfl), rfl, ?_, ?_⟩, ?_⟩
  ·intro b off hp
   have hin : MemPlace.cell b off ∈ before := by rw [hps]; simpa using hp
   rw [hb.frozen (hlt _ hin)]
   exact hz b off hin
  ·intro ha
   have := hn ha
   rw [hps] at this
   simpa using this
  ·intro p hp _
   rw [hps]
   simpa using hp
end
theorem Try.own : ownKnob Try.prog.godebug = none := by kernel_rfl
theorem cellsI : Try.prog.cellsOf 3 = 1 := by kernel_rfl
theorem cellsP : Try.prog.cellsOf 23 = 2 := by kernel_rfl
section
variable {H : Type} {enc : TypeId × Value → H} {w : World} {base b0 : Nat} {spare : Nat → Bool} {held : Bool} {r : Reach} {v : Value} {d : DataW H} {p : List MemPlace}
end
set_option maxRecDepth 100000 in
theorem open_ptc {H : Type} {enc : TypeId × Value → H} {w : World} {base m : Nat} {spare : Nat → Bool} {held : Bool} {c0 c1 : Value} {z : DataW H × List MemPlace} (h : DataW.trod enc Try.prog w base spare held m 23 [c0, c1] = some z) :
  ∃ x y : Int, z = (.agg [.lit (.int .i64 x), .lit (.int .i64 y)], []) ∧ c0 = .int .i64 x ∧ c1 = .int .i64 y ∧ (Lit.int .i64 x).wf = true ∧ (Lit.int .i64 y).wf = true := by
 obtain ⟨y0, y1, n, hx, _, h0, h1⟩ := trod_struct2 Try.underlying23 h
 have k : Try.prog.cellsOf 3 = 1 := cellsI
 simp only [k] at h0 h1
 obtain ⟨a, e0, q0, wa⟩ := DataW.trod_int (fuel := n) (cs := [c0]) Try.underlying3 (by simpa using h0)
 obtain ⟨b, e1, q1, wb⟩ := DataW.trod_int (fuel := n) (cs := [c1]) Try.underlying3 (by simpa using h1)
 simp at e0 e1
 subst e0 e1 q0 q1
 exact ⟨a, b, hx, rfl, rfl, wa, wb⟩
section
variable {H : Type} {enc : TypeId × Value → H} {w : World} {base b0 : Nat} {spare : Nat → Bool} {held : Bool} {r : Reach} {v : Value} {d : DataW H} {p : List MemPlace}
end
end Go.Proofs.Ytbanlhlggkdanaa
namespace Go.Proofs.Ytbanlhlggkdanaa
open Go.ChangeShapes Go.WideShapes Go.ChangeAt Go.RowKit Go.Joins
section
variable {H : Type} {enc : TypeId × Value → H} {w : World} {base b0 : Nat} {spare : Nat → Bool} {held : Bool} {r : Reach} {v : Value} {d : DataW H} {p : List MemPlace}
end
end Go.Proofs.Ytbanlhlggkdanaa
namespace Go.Proofs.Ytbanlhlggkdanaa
open Go.ChangeShapes Go.WideShapes Go.ChangeAt Go.RowKit Go.Joins
theorem Try.kids : Kids Try.prog (· < Try.prog.types.size) := kids_rows (by kernel_rfl) (by kernel_rfl)
theorem Try.full : ∀ t e, t < Try.prog.types.size → Try.prog.underlying t = some (.slice e) → 0 < Try.prog.cellsOf e := slices_full_of Try.prog (by kernel_rfl)
section
variable {H : Type} {enc : TypeId × Value → H} {P : Program} {w w' : World} {base : Nat} {sp : Nat → Bool} {held : Bool}
theorem trod_carry1 {t : TypeId} {v : Value} {d : DataW H} {ps : List MemPlace} (h : DataW.Trod enc P w base sp held t v d ps) (hs : ∀ p ∈ ps, w.sameAt w' p) : DataW.Trod enc P w' base sp held t v d ps := by
 obtain ⟨n, hn⟩ := h
 exact ⟨n, DataW.trod_carry n _ _ _ hn hs⟩
theorem trodAll_carry : ∀ {ts : List TypeId} {vs : List Value} {ds : List (DataW H)} {ps : List MemPlace}, DataW.TrodAll enc P w base sp held ts vs ds ps → (∀ p ∈ ps, w.sameAt w' p) → DataW.TrodAll enc P w' base sp held ts vs ds ps
 | [], [], [], _, h, _ => h
 | _ :: _, _ :: _, _ :: _, _, ⟨p, q, h1, h2, e⟩, hs => ⟨p, q, trod_carry1 h1 (fun x hx => hs x (by rw [e]; exact List.mem_append_left _ hx)), trodAll_carry h2 (fun x hx => hs x (by rw [e]; exact List.mem_append_right _ hx)), e⟩
end
theorem args_again {H : Type} {enc : TypeId × Value → H} {w w' : World} {sp : Nat → Bool} {ts : List TypeId} {vs : List Value} {ds : List (DataW H)} {ps : List MemPlace} (hT : ∀ t ∈ ts, t < Try.prog.types.size) (hA : DataW.TrodAll enc Try.prog w 0 (fun _ => true) true ts vs ds ps) (hb : Below w.heap.size w w') (hs : ∀ p ∈ ps, sp p.block = true) : DataW.TrodAll enc Try.prog w' 0 sp true ts vs ds ps :=
 trodAll_carry (DataW.TrodAll.respare Try.kids Try.full hT hA hs) (fun p hp => hb.same (DataW.TrodAll.lt hA p hp))
theorem Tri.lawF {P : Program} {f : FuncId} {args : List Value} {v : Value} {φ : List Res} (h : Tri P f args [] φ (Ret0 v)) (w : World) {T : Nat → Prop} (hF : Fac w φ T) (hT : ∀ k, T k → k < w.heap.size) :
  Calls P f args.toArray w fun e w' => e = .returned v ∧ Below w.heap.size w w' := by
 refine (h.2 w (fun _ => False) T (fun _ h => h) hF (fun _ h _ => h) hT).mono ?_
 rintro e w' ⟨v', μ', φ', he, ⟨rfl, rfl, rfl⟩, hk, -⟩
 exact ⟨he, hk.below (fun _ h => h)⟩
theorem fac_one {w : World} {r : Res} {S : Nat → Prop} (h : r.p w S) : Fac w [r] S := fun q hq => by
 rw [List.mem_singleton] at hq
 subst hq
 exact ⟨S, h, fun _ h => h⟩
section
variable {H : Type} {enc : TypeId × Value → H} {w : World} {base b0 : Nat} {spare : Nat → Bool} {held : Bool} {r : Reach} {v : Value} {d : DataW H} {p : List MemPlace}
end
end Go.Proofs.Ytbanlhlggkdanaa
namespace Go.Proofs.Ytbanlhlggkdanaa
open Go.ChangeShapes Go.WideShapes Go.ChangeAt Go.RowKit Go.Joins
theorem list3v {α : Type} {a : Array α} (h : a.size = 3) : ∃ x y z, a = #[x, y, z] := by
 match a, h with
 | ⟨[x, y, z]⟩, _ => exact ⟨x, y, z, rfl⟩
theorem cellsA3 : Try.prog.cellsOf 34 = 3 := by kernel_rfl
theorem ptCells_at : ∀ {l : List (Int × Int)} {j : Nat} {u : Value}, (ptCells l)[j]? = some u → ∃ (i : Nat) (p : Int × Int), l[i]? = some p ∧ (j = i * 2 ∧ u = .int .i64 p.1 ∨ j = i * 2 + 1 ∧ u = .int .i64 p.2)
 | [], j, u, h => by simp [ptCells] at h
 | p :: l, 0, u, h => ⟨0, p, rfl, .inl ⟨rfl, (Option.some.inj h).symm⟩⟩
 | p :: l, 1, u, h => ⟨0, p, rfl, .inr ⟨rfl, (Option.some.inj h).symm⟩⟩
 | p :: l, j + 2, u, h => by
  obtain ⟨i, q, h1, h2⟩ := ptCells_at (l := l) (j := j) (u := u) h
  exact ⟨i + 1, q, h1, h2.imp (fun h => ⟨by omega, h.2⟩) (fun h => ⟨by omega, h.2⟩)⟩
section
variable {H : Type} {enc : TypeId × Value → H} {w : World} {base b0 : Nat} {spare : Nat → Bool} {held : Bool} {r : Reach} {v : Value} {d : DataW H} {p : List MemPlace}
set_option maxRecDepth 100000 in
theorem open_arr3 (hv : Value.okWide Try.prog w r b0 34 v) (h : DataW.Trod enc Try.prog w base spare held 34 v d p) :
  ∃ a b c : Int, v = .agg #[.int .i64 a, .int .i64 b, .int .i64 c] ∧ d = .agg [.lit (.int .i64 a), .lit (.int .i64 b), .lit (.int .i64 c)] ∧ p = [] ∧ (Lit.int .i64 a).wf = true ∧ (Lit.int .i64 b).wf = true ∧ (Lit.int .i64 c).wf = true := by
 obtain ⟨cs, rfl, hsz⟩ : ∃ cs, v = .agg cs ∧ cs.size = Try.prog.cellsOf 34 := by
  simp only [Value.okWide, Try.underlying34] at hv
  obtain ⟨cs, h1, h2, _⟩ := hv
  exact ⟨cs, h1, h2⟩
 obtain ⟨c0, c1, c2, rfl⟩ := list3v (hsz.trans cellsA3)
 obtain ⟨fuel, hf⟩ := h
 obtain ⟨y0, y1, y2, m, hx, hy0, hy1, hy2⟩ := trod_array3 Try.underlying34 cellsI hf
 obtain ⟨x0, e0, rfl, w0⟩ := DataW.trod_int Try.underlying3 hy0
 obtain ⟨x1, e1, rfl, w1⟩ := DataW.trod_int Try.underlying3 hy1
 obtain ⟨x2, e2, rfl, w2⟩ := DataW.trod_int Try.underlying3 hy2
 simp at e0 e1 e2
 subst e0 e1 e2
 simp only [Prod.mk.injEq] at hx
 obtain ⟨rfl, rfl⟩ := hx
 exact ⟨x0, x1, x2, rfl, rfl, rfl, w0, w1, w2⟩
set_option maxRecDepth 100000 in
theorem open_ptsl (hv : Value.okWide Try.prog w r b0 26 v) (h : DataW.Trod enc Try.prog w base spare held 26 v d p) :
  ∃ (A : Option Addr) (n c : Nat) (ps : List (Int × Int)), v = .slice A n c ∧ ps.length = n ∧ True ∧ ∃ S, (sliceR 2 A n (ptCells ps)).p w S ∧ ∀ k, S k → k < w.heap.size := by
 obtain ⟨A, n, c, rfl⟩ := okWide_slice Try.underlying26 hv
 obtain ⟨fuel, hf⟩ := h
 rcases Go.Deep.open_slice Try.underlying26 hf with ⟨hcs, _⟩ | ⟨a, len, cap, m, n', D, Pl, hcs, _, hl, _, hm, _, hx⟩
 ·simp [Value.cells] at hcs
  obtain ⟨rfl, rfl, rfl⟩ := hcs
  refine ⟨none, 0, 0, [], rfl, rfl, trivial, fun _ => False, ⟨rfl, ?_⟩, fun _ h => h.elim⟩
  rw [if_pos (show (ptCells []).length = 0 from rfl)]
  exact fun _ h => h
 ·simp [Value.cells] at hcs
  obtain ⟨rfl, rfl, rfl⟩ := hcs
  obtain ⟨f, hfx⟩ := Go.Deep.choose_lt (α := Int × Int) (n := n) (p := fun i q => w.cell? (a.add (i * 2)) = some (.int .i64 q.1) ∧ w.cell? (a.add (i * 2 + 1)) = some (.int .i64 q.2)) (fun i hi => by
   have hle : n ≤ m := by rw [hm]; split <;> omega
   obtain ⟨cs', h1, h2⟩ := hx i (by omega)
   rw [cellsP] at h1
   obtain ⟨_, hlen, hc⟩ := World.cells?_some h1
   match cs', hlen with
   | [c0, c1], _ =>
    obtain ⟨x, y, _, rfl, rfl, _, _⟩ := open_ptc h2
    have e0 := hc 0 (by decide)
    have e1 := hc 1 (by decide)
    rw [Go.Deep.add_add] at e0 e1
    exact ⟨(x, y), e0, e1⟩)
  have hlt : ((List.range n).map f).length = n := by rw [List.length_map, List.length_range]
  have hp : ∃ S, (sliceR 2 (some a) n (ptCells ((List.range n).map f))).p w S := by
   by_cases h0 : n = 0
   ·refine ⟨fun _ => False, by rw [ptCells_len, hlt], ?_⟩
    rw [if_pos (by rw [ptCells_len, hlt]; omega)]
    exact fun _ h => h
   ·refine ⟨fun k => k = a.block, by rw [ptCells_len, hlt], ?_⟩
    rw [if_neg (by rw [ptCells_len, hlt]; omega)]
    refine ⟨a, rfl, fun k => Iff.rfl, fun j u hj => ?_⟩
    obtain ⟨i, q, h1, h2⟩ := ptCells_at hj
    have hi : i < n := by
     have := (List.getElem?_eq_some_iff.1 h1).1
     rw [hlt] at this
     exact this
    rw [List.getElem?_map, List.getElem?_range hi] at h1
    have hq : f i = q := Option.some.inj h1
    subst hq
    rcases h2 with ⟨rfl, rfl⟩ | ⟨rfl, rfl⟩
    ·exact (hfx i hi).1
    ·exact (hfx i hi).2
  obtain ⟨S, hS⟩ := hp
  exact ⟨some a, n, c, (List.range n).map f, rfl, hlt, trivial, S, hS, fun k hk => (sliceR 2 (some a) n _).lt hS hk⟩
end
end Go.Proofs.Ytbanlhlggkdanaa
