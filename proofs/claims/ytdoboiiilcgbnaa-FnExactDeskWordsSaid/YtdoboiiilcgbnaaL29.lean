/- WHAT IS PROVED: the rule for an order-free region. Conditions: none. -/
import Derived.Test.YtdoboiiilcgbnaaL28
namespace Go.Proofs.Ytdoboiiilcgbnaa.L
set_option linter.unusedVariables false
set_option linter.unusedSimpArgs false

section
variable {P : Program} {T n : Nat} {ops : Array Oper} {f : Nat → St} {acc : List RW} {Γ : Ctx} {Q : Exit → Act → World → Prop}

def setT (S : Nat → Bool) (i : Nat) : Nat → Bool := fun j => if j = i then true else S j

def cnt (S : Nat → Bool) : Nat → Nat
  | 0 => 0
  | k + 1 => cnt S k + (if S k then 0 else 1)

theorem cnt_set {S : Nat → Bool} {i : Nat} (hi : S i = false) : ∀ m, cnt (setT S i) m + (if i < m then 1 else 0) = cnt S m
  | 0 => by simp [cnt]
  | m + 1 => by
    simp only [cnt]
    have ih := cnt_set hi m
    by_cases h : m = i
    · subst h
      simp [setT, hi] at ih ⊢
      omega
    · have e : setT S i m = S m := by simp [setT, h]
      rw [e]
      by_cases h2 : i < m
      · simp [h2] at ih; simp [show i < m + 1 by omega]; omega
      · simp [h2] at ih; simp [show ¬ i < m + 1 by omega]; omega

theorem cnt_zero {S : Nat → Bool} : ∀ {m}, cnt S m = 0 → ∀ j, j < m → S j = true
  | 0, _, j, hj => by omega
  | m + 1, h, j, hj => by
    simp only [cnt] at h
    by_cases e : j = m
    · subst e
      by_cases hs : S j = true
      · exact hs
      · simp [hs] at h
    · exact cnt_zero (m := m) (by omega) j (by omega)

/-- The names that are known when a set of operations is done. -/
def Nm (n m : Nat) (S : Nat → Bool) (r : Nat) : Prop := r < n ∨ ∃ j, j < m ∧ S j = true ∧ n + 64 * j ≤ r ∧ r < n + 64 * j + 64

theorem draw_any (hok : okDraw ops acc = true) (hst : ∀ j, j < ops.size → StepAt P T n ops f acc j)
    (hfin : ∀ a w, a.tmps.size = T → a.defers = [] → Sat Γ (· < n + 64 * ops.size) (f ops.size) a.tmps w → Q .normal a w) :
    ∀ (fuel : Nat) (listed : Array Bool) (a : Act) (w : World), listed.size = ops.size → cnt (listed.getD · false) ops.size ≤ fuel →
    (∀ j o, listed.getD j false = true → ops[j]? = some o → ∀ e ∈ o.after.toList, Region.binds .any e = true → listed.getD e.on false = true) →
    a.tmps.size = T → a.defers = [] → Sat Γ (Nm n ops.size (listed.getD · false)) (gAt f acc (listed.getD · false) ops.size) a.tmps w → wpAny P .any ops Q fuel listed a w := by
  -- where all is done
  have all_done : ∀ (S : Nat → Bool) (a : Act) (w : World), (∀ j, j < ops.size → S j = true) → a.tmps.size = T → a.defers = [] → Sat Γ (Nm n ops.size S) (gAt f acc S ops.size) a.tmps w → Q .normal a w := by
    intro S a w hS hs hd hsat
    rw [g_all hst hS ops.size (Nat.le_refl _)] at hsat
    obtain ⟨Z, B, ρ, F, h⟩ := hsat
    refine hfin a w hs hd ⟨Z, B, ρ, F, h.weakN ?_⟩
    rintro r (hr | ⟨j, h1, _, h3, h4⟩)
    · omega
    · have : 64 * j + 64 ≤ 64 * ops.size := by omega
      omega
  -- the first that is not done is ready
  have some_ready : ∀ listed : Array Bool, listed.size = ops.size → Region.ready .any ops listed = [] → ∀ j, j < ops.size → listed.getD j false = true := by
    intro listed hsz hr j
    induction j using Nat.strongRecOn with
    | _ j ih =>
      intro hj
      by_cases hl : listed.getD j false = true
      · exact hl
      · exfalso
        have hm : j ∈ Region.ready .any ops listed := by
          unfold Region.ready
          rw [List.mem_filter]
          refine ⟨List.mem_range.2 hj, ?_⟩
          have ho : ops[j]? = some ops[j] := Array.getElem?_eq_getElem hj
          have hl' : listed.getD j true = false := by
            have : j < listed.size := by omega
            simp [Array.getD_eq_getD_getElem?, this] at hl ⊢
            exact hl
          simp only [hl', Bool.not_false, Bool.true_and, ho, Option.map_some, Option.getD_some]
          rw [← Array.all_toList, List.all_eq_true]
          intro e he
          by_cases hb : Region.binds .any e = true
          · have hlt := ok_after hok ho e he hb
            simp [hb, ih e.on hlt (by omega)]
          · simp [hb]
        rw [hr] at hm
        cases hm
  intro fuel
  induction fuel with
  | zero =>
    intro listed a w hsz hc hcl hs hd hsat
    have hall := cnt_zero (show cnt (listed.getD · false) ops.size = 0 by omega)
    refine ⟨?_, all_done _ a w hall hs hd hsat⟩
    unfold Region.ready
    rw [List.filter_eq_nil_iff]
    intro j hj
    have hlt : j < ops.size := List.mem_range.1 hj
    have := hall j hlt
    have hl : listed.getD j true = true := by
      have h2 : j < listed.size := by omega
      simp [Array.getD_eq_getD_getElem?, h2] at this ⊢
      exact this
    simp [hl]
  | succ fuel ih =>
    intro listed a w hsz hc hcl hs hd hsat
    refine ⟨fun hr => all_done _ a w (some_ready listed hsz hr) hs hd hsat, ?_⟩
    intro i hi
    unfold Region.ready at hi
    rw [List.mem_filter] at hi
    obtain ⟨hi1, hi2⟩ := hi
    have hlt : i < ops.size := List.mem_range.1 hi1
    have ho : ops[i]? = some ops[i] := Array.getElem?_eq_getElem hlt
    simp only [Bool.and_eq_true, Bool.not_eq_true', ho, Option.map_some, Option.getD_some] at hi2
    obtain ⟨hl, hafter⟩ := hi2
    have hl' : listed.getD i false = false := by
      have h2 : i < listed.size := by omega
      simp [Array.getD_eq_getD_getElem?, h2] at hl ⊢
      exact hl
    rw [← Array.all_toList, List.all_eq_true] at hafter
    have hpre : ∀ o, ops[i]? = some o → ∀ e ∈ o.after.toList, Region.binds .any e = true → listed.getD e.on false = true := by
      intro o ho' e he hb
      rw [ho] at ho'
      simp only [Option.some.injEq] at ho'
      subst ho'
      have := hafter e he
      simpa [hb] using this
    have hnew : (fun j => (listed.setIfInBounds i true).getD j false) = setT (listed.getD · false) i := by
      funext j
      simp only [setT, Array.getD_eq_getD_getElem?, Array.getElem?_setIfInBounds]
      by_cases e : j = i
      · subst e
        simp [show j < listed.size by omega]
      · simp [e, Ne.symm e]
    obtain ⟨o, R, W, h1, h2, h3⟩ := g_step (S := (listed.getD · false)) (S' := setT (listed.getD · false) i) hok hst hcl hlt hl' hpre (by simp [setT]) (fun j hj => by simp [setT, hj])
    refine step_sound h1 h3 (by rw [hs]; exact h2) hsat ?_ ?_
    · rintro r hr1 hr2 (hr | ⟨j, hj1, hj2, hj3, hj4⟩)
      · omega
      · have : j = i := by omega
        subst this
        have hj2' : listed.getD j false = true := hj2
        rw [hl'] at hj2'
        cases hj2'
    · intro a' w' k1 k2 k3
      refine ih _ a' w' (by simpa using hsz) ?_ ?_ (by rw [k1, hs]) (by rw [k2, hd]) ?_
      · have := cnt_set (S := (listed.getD · false)) hl' ops.size
        rw [if_pos hlt] at this
        rw [hnew]
        omega
      · intro j o' hj ho' e he hb
        have hj' : setT (listed.getD · false) i j = true := by rw [← hnew]; exact hj
        have goal : setT (listed.getD · false) i e.on = true := by
          simp only [setT] at hj' ⊢
          split
          · rfl
          · split at hj'
            · rename_i e2
              subst e2
              exact hpre o' ho' e he hb
            · exact hcl j o' hj' ho' e he hb
        rw [← hnew] at goal
        exact goal
      · rw [hnew]
        obtain ⟨Z, B, ρ, F, k3⟩ := k3
        refine ⟨Z, B, ρ, F, k3.weakN ?_⟩
        rintro r ((hr | ⟨j, hj1, hj2, hj3, hj4⟩) | ⟨hr1, hr2⟩)
        · exact .inl hr
        · refine .inr ⟨j, hj1, ?_, hj3, hj4⟩
          simp only [setT]
          split
          · rfl
          · exact hj2
        · exact .inr ⟨i, hlt, by simp [setT], hr1, hr2⟩

/-- AN ORDER-FREE REGION, walked in one order. -/
theorem draw_of {st : SL} {K : SL → Nat → Prop} (hm : P.follows .mixedOrders = true) (h : regD P T ops ops.toList st n [] fun st' n' acc => okDraw ops acc = true ∧ K st' n') : DrawW P T ops st n K := by
  intro Γ a w Q hs hd hsat hk t
  obtain ⟨f, acc, st', ⟨hok, hK⟩, -, hf0, hfm, hst⟩ := regD_trace (P := P) (T := T) (n := n) (ops := ops) ops.toList 0 st [] (by simp) rfl (by simpa using h)
  simp only [Nat.zero_add, Array.length_toList] at hf0 hfm hst hK
  simp only [Region.schedule, hm, Bool.true_or, if_true]
  refine wpAny_sound ops.size t _ a w ?_
  refine draw_any (Γ := Γ) (n := n) hok (fun j hj => hst j (by omega) hj) ?_ ops.size (Array.replicate ops.size false) a w (by simp) ?_ ?_ hs hd ?_
  · intro a' w' h1 h2 h3
    rw [hfm] at h3
    exact hk st' _ a' w' (by omega) hK h1 h2 h3
  · have : ∀ (S : Nat → Bool) (m : Nat), cnt S m ≤ m := by
      intro S m
      induction m with
      | zero => simp [cnt]
      | succ m ih =>
        simp only [cnt]
        split <;> omega
    exact this _ _
  · intro j o hj
    simp [Array.getD_eq_getD_getElem?, Array.getElem?_replicate] at hj
    split at hj <;> cases hj
  · have e : ∀ k, gAt f acc (fun j => (Array.replicate ops.size false).getD j false) k = f 0 := by
      intro k
      induction k with
      | zero => rfl
      | succ k ih =>
        funext x
        simp only [gAt]
        rw [if_neg]
        · rw [ih]
        · intro hn
          simp [Array.getD_eq_getD_getElem?, Array.getElem?_replicate] at hn
          have := hn.1
          split at this <;> cases this
    rw [e, hf0]
    obtain ⟨Z, B, ρ, F, h⟩ := hsat
    exact ⟨Z, B, ρ, F, h.weakN (fun r hr => .inl hr)⟩

end
end Go.Proofs.Ytdoboiiilcgbnaa.L
