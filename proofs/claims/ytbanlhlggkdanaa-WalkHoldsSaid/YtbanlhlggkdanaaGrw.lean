/- Own arrays that grow, and one own resource lent to a call: the rules as the printed walks use them. -/
import Derived.Test.YtbanlhlggkdanaaGro
set_option linter.unusedSimpArgs false
set_option linter.unusedVariables false
namespace Go.Proofs.Ytbanlhlggkdanaa
open Go.RowKit

theorem OJ_conv {E : Env} {op : Op} {ty : TypeId} {σ : List (Nat × Value)} {μ φ : List Res} {X X' : Value → List Res → List Res → Prop} (ho : OJ E op ty σ μ φ X)
    (h : ∀ v μ' φ', X v μ' φ' → ∃ μ'', X' v μ'' φ' ∧ List.Perm μ' μ'') : OJ E op ty σ μ φ X' := fun a w d pos af g K Q hs hm hK =>
  ho a w d pos af g K Q hs hm fun v μ' φ' w' hx hm' => by
    obtain ⟨μ'', h1, h2⟩ := h v μ' φ' hx
    exact hK v μ'' φ' w' h1 (hm'.weak (μr := []) (by simpa using h2) (fun _ h => h))
theorem perm_at {l : List Res} {k : Nat} {r : Res} (h : l[k]? = some r) : List.Perm l (r :: l.eraseIdx k) := perm_erase l k r h
theorem perm_set {l : List Res} {k : Nat} {r : Res} (r' : Res) (h : l[k]? = some r) : List.Perm (r' :: l.eraseIdx k) (l.set k r') := by
  have hlt : k < l.length := (List.getElem?_eq_some_iff.1 h).1
  have := perm_erase (l.set k r') k r' (by simp [hlt])
  rw [List.eraseIdx_set_eq] at this
  exact this.symm
/-! ### structs whose fields have more than one cell -/
def layN (P : Program) (t : TypeId) : Option (List Value × List (Nat × Nat)) :=
  match P.info? t, P.underlying t with
  | some it, some (.struct fs) => match it.zero, fs.toList.mapM (fun f => (P.info? f.type).map fun i => (f.offset, i.size)) with
    | some z, some places => some (z.cells.toList, places)
    | _, _ => none
  | _, _ => none
def setParts (places : List (Nat × Nat)) : Array Value → List (Nat × Value) → Array Value
  | cs, [] => cs
  | cs, (i, v) :: r => setParts places (wr cs ((places[i]?).getD (0, 0)).1 v.cells.toList) r
def partsOk (places : List (Nat × Nat)) (n : Nat) (pvs : List (Nat × Value)) : Bool := pvs.all fun p => match places[p.1]? with
  | some (o, s) => Nat.beq p.2.cells.size s && Nat.ble (o + s) n
  | none => false
theorem fill_parts (places : List (Nat × Nat)) : ∀ (pvs : List (Nat × Value)) (cs : Array Value), partsOk places cs.size pvs = true → Instr.fill (places.toArray[·]?) cs pvs = some (setParts places cs pvs)
  | [], cs, _ => by simp [Instr.fill, setParts]
  | (i, v) :: r, cs, h => by
    simp only [partsOk, List.all_cons, Bool.and_eq_true] at h
    obtain ⟨h1, h2⟩ := h
    cases hp : places[i]? with
    | none => rw [hp] at h1; cases h1
    | some q =>
      obtain ⟨o, sz⟩ := q
      rw [hp] at h1
      simp only [Bool.and_eq_true] at h1
      have e1 := Nat.eq_of_beq_eq_true h1.1
      have e2 := Nat.le_of_ble_eq_true h1.2
      have hz : v.cells.zipIdx.foldl (fun (cs : Array Value) (x : Value × Nat) => match x with | (c, j) => cs.setIfInBounds (o + j) c) cs = wr cs o v.cells.toList := by
        have := zip_wr v.cells.toList 0 o cs
        rw [Nat.add_zero] at this
        rw [← this, ← Array.foldl_toList, Array.toList_zipIdx]
      have hp' : places.toArray[i]? = some (o, sz) := by simpa using hp
      simp only [Instr.fill, hp', setParts, hp, Option.getD_some]
      rw [if_neg (by simp only [e1, bne_self_eq_false, ne_eq, not_true_eq_false, decide_false, Bool.false_or, decide_eq_true_eq]; omega), hz]
      exact fill_parts places r _ (by rw [wr_size]; exact h2)
theorem built_of_layN {P : Program} {t : TypeId} {zs : List Value} {places : List (Nat × Nat)} {pvs : List (Nat × Value)} (hl : layN P t = some (zs, places)) (hok : partsOk places zs.length pvs = true) : P.built t pvs = some (setParts places zs.toArray pvs) := by
  unfold layN at hl
  unfold Program.built
  cases hi : P.info? t with
  | none => rw [hi] at hl; simp at hl
  | some it =>
    rw [hi] at hl
    cases hu : P.underlying t with
    | none => rw [hu] at hl; simp at hl
    | some d =>
      rw [hu] at hl
      cases d <;> simp at hl
      rename_i fs
      cases hz : it.zero with
      | none => rw [hz] at hl; simp at hl
      | some z =>
        simp only [hz] at hl ⊢
        generalize (List.mapM (fun (f : Field) => (P.info? f.type).map fun i => (f.offset, i.size)) fs.toList) = ps at *
        cases ps with
        | none => simp at hl
        | some places' =>
          simp only [Option.some.injEq, Prod.mk.injEq] at hl
          obtain ⟨rfl, rfl⟩ := hl
          have := fill_parts places' pvs z.cells (by simpa using hok)
          simpa using this
section
variable {E : Env} {ty : TypeId} {σ : List (Nat × Value)} {μ φ : List Res}
theorem YJ_buildN {t : TypeId} {parts : Array (Nat × Operand)} {pvs : List (Nat × Value)} {zs cs : List Value} {places : List (Nat × Nat)} (hl : layN E.P t = some (zs, places)) (hp : oevP σ parts.toList = some pvs) (hok : partsOk places zs.length pvs = true) (hc : setParts places zs.toArray pvs = cs.toArray) :
    YJ E (.build t parts) ty σ μ φ (.agg cs.toArray) := by
  rw [← hc]
  refine YJ_build (pvs := pvs) (fun a hs => ?_) (built_of_layN hl hok)
  have := hs.evP hp
  simpa using this
theorem OJ_appendK {t e : TypeId} {size bytes : Nat} {z : Value} {x y : Operand} {A B : Option Addr} {n c m c' : Nat} {xs news ys : List Value} (k : Nat) (he : elt E.P t = some (e, size, bytes)) (hz : zer E.P e = some z) (hzs : z.cells.size = size)
    (hk : μ[k]? = some (rowR e size A n c xs)) (hx : oev σ x = some (.slice A n c)) (hy : oev σ y = some (.slice B m c')) (hrd : Rd μ φ B news) (hl : news.length = m * size) (h1 : news.all (·.oneCell') = true) (hm : 0 < m) (h63 : n + m ≤ 1073741824) (hb : bytes ≤ 65536) (hys : xs ++ news = ys) :
    OJ E (.call { callee := .builtin .append, args := #[x, y], argTypes := #[t, t] }) ty σ μ φ (fun v μ' φ' => ∃ A' c2, v = .slice A' (n + m) c2 ∧ μ' = μ.set k (rowR e size A' (n + m) c2 ys) ∧ φ' = φ) :=
  OJ_conv (OJ_append he hz hzs hx hy (perm_at hk) hrd hl h1 hm h63 hb hys) fun v μ' φ' ⟨A', c2, h1, h2, h3⟩ => ⟨_, ⟨A', c2, h1, rfl, h3⟩, by subst h2; exact perm_set _ hk⟩
theorem OJ_storeRowK {t e : TypeId} {x y : Operand} {n c m size off : Nat} {A : Option Addr} {ad : Addr} {v : Value} {ag : Bool} {xs xs' : List Value} (k : Nat) (hk : μ[k]? = some (rowR e size A n c xs)) (hx : oev σ x = some (.pointer (some ad))) (had : ad = (adr A).add off) (hy : oev σ y = some v)
    (ht : tyi E.P t = some (ag, m)) (hn : v.cells.size = m) (hb : off + m ≤ xs.length) (h1 : v.cells.toList.all (·.oneCell') = true) (hxs : xs.take off ++ (v.cells.toList ++ xs.drop (off + m)) = xs') (hm0 : 0 < xs.length) :
    OJ E (.store t x y) ty σ μ φ (fun _ μ' φ' => μ' = μ.set k (rowR e size A n c xs') ∧ φ' = φ) :=
  OJ_conv (OJ_storeRow (perm_at hk) hx had hy ht hn hb h1 hxs hm0) fun v μ' φ' ⟨h1, h2⟩ => ⟨_, ⟨rfl, h2⟩, by subst h1; exact perm_set _ hk⟩
/-- what a contract says of a result and of one resource that was lent -/
def RetL {ι : Type} (C : ι → Prop) (f : ι → Value) (r : ι → Res) (g : ι → List Res) : Value → List Res → List Res → Prop := fun v μ φ => ∃ x, C x ∧ v = f x ∧ μ = [r x] ∧ φ = g x
def Ret1 (v0 : Value) (r : Res) : Value → List Res → List Res → Prop := fun v μ φ => v = v0 ∧ μ = [r] ∧ φ = []
theorem OJ_callM {ι : Type} {C : ι → Prop} {fv : ι → Value} {rf : ι → Res} {gf : ι → List Res} {x : Operand} {xs : Array Operand} {at_ : Array TypeId} {f : FuncId} {cap : Array Value} {vs : List Value} {r : Res} {φ1 : List Res} (k : Nat) (hk : μ[k]? = some r) (hx : oev σ x = some (.func (.func f) #[] cap)) (hxs : oevs σ xs.toList = some vs)
    (ht : Tri E.P f (vs ++ cap.toList) [r] φ1 (RetL C fv rf gf)) (hφ : ∀ r, r ∈ φ1 → r ∈ φ) :
    OJ E (.call { callee := .value x, args := xs, argTypes := at_ }) ty σ μ φ (fun v μ' φ' => ∃ x, C x ∧ v = fv x ∧ μ' = μ.set k (rf x) ∧ φ' = gf x ++ φ) :=
  OJ_conv (OJ_call (μr := μ.eraseIdx k) hx hxs ht (perm_at hk) hφ) fun v μ' φ' ⟨_, _, ⟨x, hc, hv, h1, h2⟩, h3, h4⟩ => ⟨_, ⟨x, hc, hv, rfl, by subst h2; exact h4⟩, by subst h1; subst h3; exact perm_set _ hk⟩
theorem OJ_call1 {x : Operand} {xs : Array Operand} {at_ : Array TypeId} {f : FuncId} {cap : Array Value} {vs : List Value} {r r' : Res} {φ1 : List Res} {v0 : Value} (k : Nat) (hk : μ[k]? = some r) (hx : oev σ x = some (.func (.func f) #[] cap)) (hxs : oevs σ xs.toList = some vs)
    (ht : Tri E.P f (vs ++ cap.toList) [r] φ1 (Ret1 v0 r')) (hφ : ∀ r, r ∈ φ1 → r ∈ φ) :
    OJ E (.call { callee := .value x, args := xs, argTypes := at_ }) ty σ μ φ (fun v μ' φ' => v = v0 ∧ μ' = μ.set k r' ∧ φ' = φ) :=
  OJ_conv (OJ_call (μr := μ.eraseIdx k) hx hxs ht (perm_at hk) hφ) fun v μ' φ' ⟨_, _, ⟨hv, h1, h2⟩, h3, h4⟩ => ⟨_, ⟨hv, rfl, by subst h2; exact h4⟩, by subst h1; subst h3; exact perm_set _ hk⟩

variable {Q : Qt} {ops : Array Oper} {rest : List Oper} {d : Tmp} {pos : String} {af : Array Edge} {g : Option (Nat × Bool)} {ml pl : List Res} {fuel : Nat} {listed : Array Bool} {M : List (Res × List Nat)}
section
variable {t e : TypeId} {size bytes : Nat} {z : Value} {x y : Operand} {A B : Option Addr} {n c m c' : Nat} {xs news ys : List Value}
theorem LJ_append (k : Nat) (hg : grd ops σ g = some true) (hd : Nat.blt d E.N = true) (he : elt E.P t = some (e, size, bytes)) (hz : zer E.P e = some z) (hzs : z.cells.size = size)
    (hk : μ[k]? = some (rowR e size A n c xs)) (hx : oev σ x = some (.slice A n c)) (hy : oev σ y = some (.slice B m c')) (hrd : Rd μ φ B news) (hl : news.length = m * size) (h1 : news.all (·.oneCell') = true) (hm : 0 < m) (h63 : n + m ≤ 1073741824) (hb : bytes ≤ 65536) (hys : xs ++ news = ys)
    (h : ∀ A' c2, LJ E Q ops rest ((d, .slice A' (n + m) c2) :: σ) (μ.set k (rowR e size A' (n + m) c2 ys)) φ) : LJ E Q ops (⟨some d, .call { callee := .builtin .append, args := #[x, y], argTypes := #[t, t] }, ty, pos, af, g⟩ :: rest) σ μ φ :=
  LJ_o hg hd (OJ_appendK k he hz hzs hk hx hy hrd hl h1 hm h63 hb hys) (by rintro _ _ _ ⟨A', c2, rfl, rfl, rfl⟩; exact h A' c2)
theorem AJ_append (i k : Nat) (hi : ops[i]? = some ⟨some d, .call { callee := .builtin .append, args := #[x, y], argTypes := #[t, t] }, ty, pos, af, g⟩) (hr : Region.ready .any ops listed = [i])
    (hg : grd ops σ g = some true) (hd : Nat.blt d E.N = true) (he : elt E.P t = some (e, size, bytes)) (hz : zer E.P e = some z) (hzs : z.cells.size = size)
    (hk : μ[k]? = some (rowR e size A n c xs)) (hx : oev σ x = some (.slice A n c)) (hy : oev σ y = some (.slice B m c')) (hrd : Rd μ φ B news) (hl : news.length = m * size) (h1 : news.all (·.oneCell') = true) (hm : 0 < m) (h63 : n + m ≤ 1073741824) (hb : bytes ≤ 65536) (hys : xs ++ news = ys)
    (hml : ∀ A' c2 r, r ∈ ml → r ∈ μ.set k (rowR e size A' (n + m) c2 ys))
    (h : ∀ A' c2, AJ E Q ops ml pl fuel (listed.setIfInBounds i true) ((d, .slice A' (n + m) c2) :: σ) (μ.set k (rowR e size A' (n + m) c2 ys)) φ) : AJ E Q ops ml pl (fuel + 1) listed σ μ φ :=
  AJ_o i hi hr hg hd (OJ_appendK k he hz hzs hk hx hy hrd hl h1 hm h63 hb hys) (by rintro _ _ _ ⟨A', c2, rfl, rfl, rfl⟩; exact ⟨fun r h _ => hml A' c2 r h, fun _ _ h => h, h A' c2⟩)
theorem BJ_append (i k : Nat) (hi : ops[i]? = some ⟨some d, .call { callee := .builtin .append, args := #[x, y], argTypes := #[t, t] }, ty, pos, af, g⟩) (hr : Region.ready .any ops listed = [i])
    (hg : grd ops σ g = some true) (hd : Nat.blt d E.N = true) (he : elt E.P t = some (e, size, bytes)) (hz : zer E.P e = some z) (hzs : z.cells.size = size)
    (hk : μ[k]? = some (rowR e size A n c xs)) (hx : oev σ x = some (.slice A n c)) (hy : oev σ y = some (.slice B m c')) (hrd : Rd μ φ B news) (hl : news.length = m * size) (h1 : news.all (·.oneCell') = true) (hm : 0 < m) (h63 : n + m ≤ 1073741824) (hb : bytes ≤ 65536) (hys : xs ++ news = ys)
    (hM : ∀ A' c2, AllM i (μ.set k (rowR e size A' (n + m) c2 ys)) M)
    (h : ∀ A' c2, BJ E Q ops M pl fuel (listed.setIfInBounds i true) ((d, .slice A' (n + m) c2) :: σ) (μ.set k (rowR e size A' (n + m) c2 ys)) φ) : BJ E Q ops M pl (fuel + 1) listed σ μ φ :=
  BJ_o i hi hr hg hd (OJ_appendK k he hz hzs hk hx hy hrd hl h1 hm h63 hb hys) (by rintro _ _ _ ⟨A', c2, rfl, rfl, rfl⟩; exact ⟨hM A' c2, fun _ _ h => h, h A' c2⟩)
end
section
variable {t e : TypeId} {x y : Operand} {n c m size off : Nat} {A : Option Addr} {ad : Addr} {v : Value} {ag : Bool} {xs xs' : List Value} {μ' : List Res}
theorem LJ_storeRow (k : Nat) (hg : grd ops σ g = some true) (hk : μ[k]? = some (rowR e size A n c xs)) (hx : oev σ x = some (.pointer (some ad))) (had : ad = (adr A).add off) (hy : oev σ y = some v)
    (ht : tyi E.P t = some (ag, m)) (hn : v.cells.size = m) (hb : off + m ≤ xs.length) (h1 : v.cells.toList.all (·.oneCell') = true) (hxs : xs.take off ++ (v.cells.toList ++ xs.drop (off + m)) = xs') (hm0 : 0 < xs.length) (hμ' : μ.set k (rowR e size A n c xs') = μ')
    (h : LJ E Q ops rest σ μ' φ) : LJ E Q ops (⟨none, .store t x y, ty, pos, af, g⟩ :: rest) σ μ φ := by
  subst hμ'
  exact LJ_o0 hg (OJ_storeRowK k hk hx had hy ht hn hb h1 hxs hm0) (by rintro _ _ _ ⟨rfl, rfl⟩; exact h)
theorem AJ_storeRow (i k : Nat) (hi : ops[i]? = some ⟨none, .store t x y, ty, pos, af, g⟩) (hr : Region.ready .any ops listed = [i]) (hg : grd ops σ g = some true) (hk : μ[k]? = some (rowR e size A n c xs)) (hx : oev σ x = some (.pointer (some ad))) (had : ad = (adr A).add off) (hy : oev σ y = some v)
    (ht : tyi E.P t = some (ag, m)) (hn : v.cells.size = m) (hb : off + m ≤ xs.length) (h1 : v.cells.toList.all (·.oneCell') = true) (hxs : xs.take off ++ (v.cells.toList ++ xs.drop (off + m)) = xs') (hm0 : 0 < xs.length) (hμ' : μ.set k (rowR e size A n c xs') = μ')
    (hml : (∀ r, r ∈ ml → r ∈ μ) → ∀ r, r ∈ ml → r ∈ μ') (h : AJ E Q ops ml pl fuel (listed.setIfInBounds i true) σ μ' φ) : AJ E Q ops ml pl (fuel + 1) listed σ μ φ := by
  subst hμ'
  exact AJ_o0 i hi hr hg (OJ_storeRowK k hk hx had hy ht hn hb h1 hxs hm0) (by rintro _ _ _ ⟨rfl, rfl⟩; exact ⟨hml, fun _ _ h => h, h⟩)
theorem BJ_storeRow (i k : Nat) (hi : ops[i]? = some ⟨none, .store t x y, ty, pos, af, g⟩) (hr : Region.ready .any ops listed = [i]) (hg : grd ops σ g = some true) (hk : μ[k]? = some (rowR e size A n c xs)) (hx : oev σ x = some (.pointer (some ad))) (had : ad = (adr A).add off) (hy : oev σ y = some v)
    (ht : tyi E.P t = some (ag, m)) (hn : v.cells.size = m) (hb : off + m ≤ xs.length) (h1 : v.cells.toList.all (·.oneCell') = true) (hxs : xs.take off ++ (v.cells.toList ++ xs.drop (off + m)) = xs') (hm0 : 0 < xs.length) (hμ' : μ.set k (rowR e size A n c xs') = μ')
    (hM : AllM i μ' M) (h : BJ E Q ops M pl fuel (listed.setIfInBounds i true) σ μ' φ) : BJ E Q ops M pl (fuel + 1) listed σ μ φ := by
  subst hμ'
  exact BJ_o0 i hi hr hg (OJ_storeRowK k hk hx had hy ht hn hb h1 hxs hm0) (by rintro _ _ _ ⟨rfl, rfl⟩; exact ⟨hM, fun _ _ h => h, h⟩)
end
section
variable {ι : Type} {C : ι → Prop} {fv : ι → Value} {rf : ι → Res} {gf : ι → List Res} {x : Operand} {xs : Array Operand} {at_ : Array TypeId} {f : FuncId} {cap : Array Value} {vs vs' : List Value} {r r' : Res} {φ1 : List Res} {v0 : Value}
theorem LJ_callM (k : Nat) (hg : grd ops σ g = some true) (hd : Nat.blt d E.N = true) (hk : μ[k]? = some r) (hx : oev σ x = some (.func (.func f) #[] cap)) (hxs : oevs σ xs.toList = some vs) (hv : vs ++ cap.toList = vs')
    (ht : Tri E.P f vs' [r] φ1 (RetL C fv rf gf)) (hφ : ∀ r, r ∈ φ1 → r ∈ φ) (h : ∀ x, C x → LJ E Q ops rest ((d, fv x) :: σ) (μ.set k (rf x)) (gf x ++ φ)) : LJ E Q ops (⟨some d, .call { callee := .value x, args := xs, argTypes := at_ }, ty, pos, af, g⟩ :: rest) σ μ φ := by
  subst hv
  exact LJ_o hg hd (OJ_callM k hk hx hxs ht hφ) (by rintro _ _ _ ⟨x, hc, rfl, rfl, rfl⟩; exact h x hc)
/-- a call that makes a resource -/
theorem LJ_callN (hg : grd ops σ g = some true) (hd : Nat.blt d E.N = true) (hx : oev σ x = some (.func (.func f) #[] cap)) (hxs : oevs σ xs.toList = some vs) (hv : vs ++ cap.toList = vs')
    (ht : Tri E.P f vs' [] φ1 (RetL C fv rf gf)) (hφ : ∀ r, r ∈ φ1 → r ∈ φ) (h : ∀ x, C x → LJ E Q ops rest ((d, fv x) :: σ) (rf x :: μ) (gf x ++ φ)) : LJ E Q ops (⟨some d, .call { callee := .value x, args := xs, argTypes := at_ }, ty, pos, af, g⟩ :: rest) σ μ φ := by
  subst hv
  exact LJ_o hg hd (OJ_call (μr := μ) hx hxs ht (List.Perm.refl _) hφ) (by rintro _ _ _ ⟨_, _, ⟨x, hc, rfl, rfl, rfl⟩, rfl, rfl⟩; exact h x hc)
theorem LJ_call1 (k : Nat) (hg : grd ops σ g = some true) (hd : Nat.blt d E.N = true) (hk : μ[k]? = some r) (hx : oev σ x = some (.func (.func f) #[] cap)) (hxs : oevs σ xs.toList = some vs) (hv : vs ++ cap.toList = vs')
    (ht : Tri E.P f vs' [r] φ1 (Ret1 v0 r')) (hφ : ∀ r, r ∈ φ1 → r ∈ φ) (h : LJ E Q ops rest ((d, v0) :: σ) (μ.set k r') φ) : LJ E Q ops (⟨some d, .call { callee := .value x, args := xs, argTypes := at_ }, ty, pos, af, g⟩ :: rest) σ μ φ := by
  subst hv
  exact LJ_o hg hd (OJ_call1 k hk hx hxs ht hφ) (by rintro _ _ _ ⟨rfl, rfl, rfl⟩; exact h)
theorem AJ_call1 (i k : Nat) (hi : ops[i]? = some ⟨some d, .call { callee := .value x, args := xs, argTypes := at_ }, ty, pos, af, g⟩) (hr : Region.ready .any ops listed = [i]) (hg : grd ops σ g = some true) (hd : Nat.blt d E.N = true) (hk : μ[k]? = some r) (hx : oev σ x = some (.func (.func f) #[] cap)) (hxs : oevs σ xs.toList = some vs) (hv : vs ++ cap.toList = vs')
    (ht : Tri E.P f vs' [r] φ1 (Ret1 v0 r')) (hφ : ∀ r, r ∈ φ1 → r ∈ φ) (hml : ∀ q, q ∈ ml → q ∈ μ.set k r') (h : AJ E Q ops ml pl fuel (listed.setIfInBounds i true) ((d, v0) :: σ) (μ.set k r') φ) : AJ E Q ops ml pl (fuel + 1) listed σ μ φ := by
  subst hv
  exact AJ_o i hi hr hg hd (OJ_call1 k hk hx hxs ht hφ) (by rintro _ _ _ ⟨rfl, rfl, rfl⟩; exact ⟨fun r h _ => hml r h, fun _ _ h => h, h⟩)
theorem BJ_call1 (i k : Nat) (hi : ops[i]? = some ⟨some d, .call { callee := .value x, args := xs, argTypes := at_ }, ty, pos, af, g⟩) (hr : Region.ready .any ops listed = [i]) (hg : grd ops σ g = some true) (hd : Nat.blt d E.N = true) (hk : μ[k]? = some r) (hx : oev σ x = some (.func (.func f) #[] cap)) (hxs : oevs σ xs.toList = some vs) (hv : vs ++ cap.toList = vs')
    (hM : AllM i (μ.set k r') M) (ht : Tri E.P f vs' [r] φ1 (Ret1 v0 r')) (hφ : ∀ r, r ∈ φ1 → r ∈ φ) (h : BJ E Q ops M pl fuel (listed.setIfInBounds i true) ((d, v0) :: σ) (μ.set k r') φ) : BJ E Q ops M pl (fuel + 1) listed σ μ φ := by
  subst hv
  exact BJ_o i hi hr hg hd (OJ_call1 k hk hx hxs ht hφ) (by rintro _ _ _ ⟨rfl, rfl, rfl⟩; exact ⟨hM, fun _ _ h => h, h⟩)
end
theorem BJ_buildSlice {t e : TypeId} {len size bytes : Nat} {z : Value} {parts : Array (Nat × Operand)} {vs : List Value} {cs : List Value} (i : Nat) (hi : ops[i]? = some ⟨some d, .buildSlice t len parts, ty, pos, af, g⟩) (hr : Region.ready .any ops listed = [i]) (hg : grd ops σ g = some true) (hd : Nat.blt d E.N = true)
    (he : elt E.P t = some (e, size, bytes)) (hz : zer E.P e = some z) (hl : len * size ≤ 16777216) (h0 : len * size ≠ 0) (hs1 : z.cells.size = size)
    (hp : oevP σ parts.toList = some (vs.zipIdx 0 |>.map fun p => (p.2, p.1))) (hlen : vs.length = len) (hv : vs.all (fun v => Nat.beq v.cells.size size) = true) (hc : vs.flatMap (·.cells.toList) = cs)
    (hM : ∀ b, AllM i (cellsR b cs.toArray e :: μ) M) (h : ∀ b, BJ E Q ops M pl fuel (listed.setIfInBounds i true) ((d, .slice (some ⟨b, 0, none⟩) len len) :: σ) (cellsR b cs.toArray e :: μ) φ) : BJ E Q ops M pl (fuel + 1) listed σ μ φ :=
  BJ_o i hi hr hg hd (OJ_buildSliceN he hz hl h0 hs1 hp hlen hv hc) (by rintro _ _ _ ⟨b, rfl, rfl, rfl⟩; exact ⟨hM b, fun _ _ h => h, h b⟩)

/-- an own array that is not empty lies somewhere -/
theorem OKm.rowSome {e : TypeId} {size n c : Nat} {A : Option Addr} {xs : List Value} {w : World} (h : OKm E μ φ w) (hm : rowR e size A n c xs ∈ μ) (hn : 0 < n) : ∃ g, A = some ⟨g, 0, none⟩ ∧ n ≤ c := by
  obtain ⟨S, hS⟩ := h.hold.1 _ hm
  rcases hS.2 with ⟨_, h0, _⟩ | ⟨g, _, h1, _, _, h2, _⟩
  · omega
  · exact ⟨g, h1, h2⟩
variable {cd : Code}
theorem CJ_rowSome {e : TypeId} {size n c : Nat} {A : Option Addr} {xs : List Value} (hm : rowR e size A n c xs ∈ μ) (hn : 0 < n) (h : ∀ g, A = some ⟨g, 0, none⟩ → n ≤ c → CJ E Q cd σ μ φ) : CJ E Q cd σ μ φ := fun a w ha hmm => let ⟨g, hg, hc⟩ := hmm.rowSome hm hn; h g hg hc a w ha hmm
theorem RJ_rowSome {l k : Nat} {e : TypeId} {size n c : Nat} {A : Option Addr} {xs : List Value} (hm : rowR e size A n c xs ∈ μ) (hn : 0 < n) (h : ∀ g, A = some ⟨g, 0, none⟩ → n ≤ c → RJ l k E Q cd σ μ φ) : RJ l k E Q cd σ μ φ := fun hq a w ha hmm => let ⟨g, hg, hc⟩ := hmm.rowSome hm hn; h g hg hc hq a w ha hmm
theorem LJ_rowSome {e : TypeId} {size n c : Nat} {A : Option Addr} {xs : List Value} (hm : rowR e size A n c xs ∈ μ) (hn : 0 < n) (h : ∀ g, A = some ⟨g, 0, none⟩ → n ≤ c → LJ E Q ops rest σ μ φ) : LJ E Q ops rest σ μ φ := fun a w ha hmm => let ⟨g, hg, hc⟩ := hmm.rowSome hm hn; h g hg hc a w ha hmm
/-- a resource says the same in other words -/
theorem OKm.turnK {w : World} {k : Nat} {r r' : Res} (h : OKm E μ φ w) (hk : μ[k]? = some r) (hr : ∀ w S, r.p w S → r'.p w S) : OKm E (μ.set k r') φ w :=
  ((h.weak (μr := []) (by simpa using perm_at hk) (fun _ h => h)).head hr).weak (μr := []) (by simpa using perm_set r' hk) (fun _ h => h)
theorem CJ_turnK {k : Nat} {r r' : Res} (hk : μ[k]? = some r) (hr : ∀ w S, r.p w S → r'.p w S) (h : CJ E Q cd σ (μ.set k r') φ) : CJ E Q cd σ μ φ := fun a w ha hm => h a w ha (hm.turnK hk hr)
theorem LJ_turnK {k : Nat} {r r' : Res} (hk : μ[k]? = some r) (hr : ∀ w S, r.p w S → r'.p w S) (h : LJ E Q ops rest σ (μ.set k r') φ) : LJ E Q ops rest σ μ φ := fun a w ha hm => h a w ha (hm.turnK hk hr)
theorem QJ_turnK {k : Nat} {r r' : Res} {ex : Exit} (hk : μ[k]? = some r) (hr : ∀ w S, r.p w S → r'.p w S) (h : QJ E Q ex σ (μ.set k r') φ) : QJ E Q ex σ μ φ := fun a w ha hm => h a w ha (hm.turnK hk hr)
/-- an own array in fewer elements -/
theorem CJ_rowShort {e : TypeId} {size n n' c : Nat} {A : Option Addr} {xs xs' : List Value} (hn : n' ≤ n) (hx : xs.take (n' * size) = xs') (h : CJ E Q cd σ (rowR e size A n' c xs' :: μ) φ) : CJ E Q cd σ (rowR e size A n c xs :: μ) φ := fun a w ha hm => h a w ha (hm.head fun w S q => hx ▸ rowR.short hn q)
end
end Go.Proofs.Ytbanlhlggkdanaa
