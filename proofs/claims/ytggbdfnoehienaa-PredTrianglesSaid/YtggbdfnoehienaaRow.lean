/- From a walk to a given row: what a law with arguments by value needs. -/
import Derived.Test.YtggbdfnoehienaaN3
import Derived.ProofKit
import Derived.Lib.SmallJoins
import Derived.Below
import Derived.ChangeSame
set_option linter.unusedSimpArgs false
set_option linter.unusedVariables false
namespace Go.Proofs.Ytggbdfnoehienaa
open Go.ChangeShapes Go.WideShapes Go.ChangeAt Go.RowKit Go.Joins

section
variable {H : Type} {enc : TypeId × Value → H} {P : Program}
theorem post_of_below' {f : Func} {s : ChangeSpec} {apart fresh handsOn again : Bool} {W W' : World} {args : Array Value} {v : Value} {ds gs : List (DataW H)} {before pa pv : List MemPlace}
    (hW : DataW.Whole enc P f.params.toList s.vars apart W args.toList ds gs before)
    (hres : ∀ (b : Nat) (sp : Nat → Bool) (hd : Bool), DataW.TrodAll enc P W' b sp hd f.resultTypes.toList (v.resultList f.resultTypes.size) (s.fn H (ds ++ gs)).results [])
    (hargs : ∀ sp : Nat → Bool, (∀ p ∈ before, sp p.block = true) → DataW.TrodAll enc P W' 0 sp true f.params.toList args.toList (s.fn H (ds ++ gs)).args pa)
    (hvars : ∀ sp : Nat → Bool, (∀ p ∈ before, sp p.block = true) → DataW.TrodVars enc P W' sp s.vars (s.fn H (ds ++ gs)).vars pv)
    (hps : before = pa ++ pv) (hb : Below W.heap.size W W')
    (hok : ∀ (j : Nat) (t : TypeId) (r : Value), f.resultTypes[j]? = some t → (v.resultList f.resultTypes.size)[j]? = some r → Value.okWide P W' .any 0 t r) :
    s.post enc P f apart fresh handsOn again W args v W' := by
  have hlt : ∀ p ∈ before, p.block < W.heap.size := fun p hp => hW.lt p hp
  have hold : ∀ p ∈ before, (fun b => decide (b < W.heap.size)) p.block = true := fun p hp => by simpa using hlt p hp
  refine ⟨ds, gs, before, [], pa, pv, hW, hres _ _ _, hargs _ hold, hvars _ hold, World.keptBut_mono (fun p hp => ⟨hp, ?_⟩) (hb.frame (· ∈ before)), fun _ => ?_⟩
  · rw [hps, List.mem_append] at hp
    exact Or.inr hp
  · obtain ⟨_, _, _, _, _, hz, hn⟩ := hW
    refine ⟨hok, _, _, ([] ++ pa) ++ pv, ⟨[] ++ pa, pv, trodAll_append (hargs _ (fun _ _ => rfl)) (hres _ _ _), hvars _ (fun _ _ => rfl), rfl, ?_, ?_⟩, ?_⟩
    · intro b off hp
      have hin : MemPlace.cell b off ∈ before := by rw [hps]; simpa using hp
      rw [hb.frozen (hlt _ hin)]
      exact hz b off hin
    · intro ha
      have := hn ha
      rw [hps] at this
      simpa using this
    · intro p hp _
      rw [hps]
      simpa using hp
end

/-- a contract of a law whose arguments are values -/
theorem Tri.law {P : Program} {f : FuncId} {args : List Value} {v : Value} (h : Tri P f args [] [] (Ret0 v)) (w : World) :
    Calls P f args.toArray w fun e w' => e = .returned v ∧ Below w.heap.size w w' := by
  refine (h.2 w (fun _ => False) (fun _ => False) (fun _ h => h) (fun r hr => nomatch hr) (fun _ h _ => h) (fun _ h => h.elim)).mono ?_
  rintro e w' ⟨v', μ', φ', he, ⟨rfl, rfl, rfl⟩, hk, -⟩
  exact ⟨he, hk.below (fun _ h => h)⟩

theorem Try.own : ownKnob Try.prog.godebug = none := by kernel_rfl
theorem cellsW : Try.prog.cellsOf 24 = 2 := by kernel_rfl

/-- the number that two words write -/
def wv (hi lo : Int) : Int := if hi < 9223372036854775808 then hi * 18446744073709551616 + lo else (hi - 18446744073709551616) * 18446744073709551616 + lo
theorem u64_b {n : Int} (h : (Lit.int .u64 n).wf = true) : 0 ≤ n ∧ n < 18446744073709551616 := by
  simp [Lit.wf, IntKind.min, IntKind.max] at h
  simp [IntKind.signed, IntKind.bits] at h
  omega
theorem i64_b {n : Int} (h : (Lit.int .i64 n).wf = true) : I64 n := by
  simp [Lit.wf, IntKind.min, IntKind.max] at h
  simp [IntKind.signed, IntKind.bits] at h
  unfold I64
  omega
theorem wv_is {hi lo : Int} (h : (Lit.int .u64 hi).wf = true) (l : (Lit.int .u64 lo).wf = true) : IsW hi lo (wv hi lo) ∧ R128 (wv hi lo) := by
  have h1 := u64_b h
  have h2 := u64_b l
  unfold IsW R128 wv
  split <;> omega

section
variable {H : Type} {enc : TypeId × Value → H} {w : World} {base b0 : Nat} {spare : Nat → Bool} {held : Bool} {r : Reach} {v : Value} {d : DataW H} {p : List MemPlace}
theorem open_wide (hv : Value.okWide Try.prog w r b0 24 v) (h : DataW.Trod enc Try.prog w base spare held 24 v d p) :
    ∃ hi lo : Int, v = .agg #[.int .u64 hi, .int .u64 lo] ∧ d = .agg [.lit (.int .u64 hi), .lit (.int .u64 lo)] ∧ p = [] ∧ (Lit.int .u64 hi).wf = true ∧ (Lit.int .u64 lo).wf = true := by
  obtain ⟨c0, c1, y0, y1, m, rfl, rfl, rfl, hy0, hy1⟩ := open_agg2 Try.underlying24 (by kernel_rfl) cellsW hv h
  obtain ⟨a, e0, rfl, wa⟩ := DataW.trod_int Try.underlying22 hy0
  obtain ⟨b, e1, rfl, wb⟩ := DataW.trod_int Try.underlying22 hy1
  simp at e0 e1
  subst e0 e1
  exact ⟨a, b, rfl, rfl, rfl, wa, wb⟩
theorem shut_wide {hi lo : Int} (wa : (Lit.int .u64 hi).wf = true) (wb : (Lit.int .u64 lo).wf = true) : DataW.Trod enc Try.prog w base spare held 24 (.agg #[.int .u64 hi, .int .u64 lo]) (.agg [.lit (.int .u64 hi), .lit (.int .u64 lo)]) [] :=
  shut_agg2 (y0 := (.lit (.int .u64 hi), [])) (y1 := (.lit (.int .u64 lo), [])) Try.underlying24 (by kernel_rfl) cellsW ⟨1, by simp [DataW.trod, Try.underlying22, wa]⟩ ⟨1, by simp [DataW.trod, Try.underlying22, wb]⟩
end

end Go.Proofs.Ytggbdfnoehienaa
