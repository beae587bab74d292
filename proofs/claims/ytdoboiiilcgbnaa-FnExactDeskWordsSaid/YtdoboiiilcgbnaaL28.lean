/- WHAT IS PROVED: an order-free region, walked in one order, does the same in each: the whole region. Conditions: none. -/
import Derived.Test.YtdoboiiilcgbnaaL27
namespace Go.Proofs.Ytdoboiiilcgbnaa.L
set_option linter.unusedVariables false
set_option linter.unusedSimpArgs false

abbrev RW := List Res × List Res

def rwAt (acc : List RW) (i : Nat) : RW := acc.getD i ([], [])

def clash (a b : RW) : Bool := a.2.any (fun x => b.1.contains x || b.2.contains x) || a.1.any (fun x => b.2.contains x)

def predIn (ops : Array Oper) : Nat → Nat → Nat → Bool
  | 0, _, _ => false
  | fuel + 1, j, i => match ops[j]? with
    | some o => o.after.toList.any fun e => Region.binds .any e && (e.on == i || predIn ops fuel e.on i)
    | none => false

def okDraw (ops : Array Oper) (acc : List RW) : Bool :=
  (List.range ops.size).all fun j => (match ops[j]? with
    | some o => o.after.toList.all fun e => !Region.binds .any e || decide (e.on < j)
    | none => true) && (List.range j).all fun i => !clash (rwAt acc i) (rwAt acc j) || predIn ops ops.size j i

def regD (P : Program) (T : Nat) (ops : Array Oper) : List Oper → SL → Nat → List RW → (SL → Nat → List RW → Prop) → Prop
  | [], st, n, acc, K => K st n acc
  | o :: os, st, n, acc, K => dstOk T o.dst ∧ (stepP P n ops o).wp st [] [] fun _ st' R W => regD P T ops os st' (n + 64) (acc ++ [(R, W)]) K

/-- One step of the walk in one order. -/
structure StepAt (P : Program) (T n : Nat) (ops : Array Oper) (f : Nat → St) (acc : List RW) (j : Nat) : Prop where
  ex : ∃ o R W, ops[j]? = some o ∧ dstOk T o.dst ∧ Run (stepP P (n + 64 * j) ops o) (f j) () (f (j + 1)) R W ∧ (∀ x ∈ R, x ∈ (rwAt acc j).1) ∧ (∀ x ∈ W, x ∈ (rwAt acc j).2)

theorem regD_trace {P : Program} {T n : Nat} {ops : Array Oper} {K : SL → Nat → List RW → Prop} : ∀ (os : List Oper) (i : Nat) (st : SL) (acc : List RW), ops.toList.drop i = os → acc.length = i → regD P T ops os st (n + 64 * i) acc K →
    ∃ (f : Nat → St) (acc' : List RW) (st' : SL), K st' (n + 64 * (i + os.length)) acc' ∧ (∀ k, k < i → acc'[k]? = acc[k]?) ∧ f i = lk st ∧ f (i + os.length) = lk st' ∧ ∀ j, i ≤ j → j < i + os.length → StepAt P T n ops f acc' j
  | [], i, st, acc, hos, hl, h => ⟨fun _ => lk st, acc, st, by simp only [regD] at h; simpa using h, fun _ _ => rfl, rfl, rfl, fun j h1 h2 => by simp at h2; omega⟩
  | o :: os, i, st, acc, hos, hl, h => by
    have hi : ops[i]? = some o := by
      have := congrArg (·[0]?) hos
      simpa using this
    have hos' : ops.toList.drop (i + 1) = os := by
      have := congrArg (List.drop 1) hos
      simpa [List.drop_drop, Nat.add_comm] using this
    simp only [regD] at h
    obtain ⟨hd, h⟩ := h
    obtain ⟨u, st1, R', W', R2, W2, h1, h2, hR, hW⟩ := Prog.wp_run h
    have en : n + 64 * i + 64 = n + 64 * (i + 1) := by omega
    rw [en] at h2
    obtain ⟨f, acc', st', k1, k2, k3, k4, k5⟩ := regD_trace os (i + 1) st1 (acc ++ [(R2, W2)]) hos' (by simp [hl]) h2
    refine ⟨fun k => if k ≤ i then lk st else f k, acc', st', ?_, ?_, by simp, ?_, ?_⟩
    · rw [List.length_cons, show i + (os.length + 1) = i + 1 + os.length by omega]; exact k1
    · intro k hk
      rw [k2 k (by omega), List.getElem?_append_left (by omega)]
    · have : ¬ i + (o :: os).length ≤ i := by simp
      simp only [this, if_false]
      rw [List.length_cons, show i + (os.length + 1) = i + 1 + os.length by omega]
      exact k4
    · intro j h3 h4
      by_cases hj : j = i
      · subst hj
        have e2 : rwAt acc' j = (R2, W2) := by
          have := k2 j (by omega)
          rw [List.getElem?_append_right (by omega)] at this
          simp [hl] at this
          simp [rwAt, List.getD, this]
        refine ⟨o, R', W', hi, hd, ?_, ?_, ?_⟩
        · simp only [Nat.le_refl, if_true, show ¬ j + 1 ≤ j by omega, if_false]
          rw [k3]
          exact h1
        · rw [e2]; exact fun x hx => hR x (.inl hx)
        · rw [e2]; exact fun x hx => hW x (.inl hx)
      · obtain ⟨o', R, W, q1, q2, q3, q4, q5⟩ := k5 j (by omega) (by simp at h4; omega)
        refine ⟨o', R, W, q1, q2, ?_, q4, q5⟩
        simp only [show ¬ j ≤ i by omega, show ¬ j + 1 ≤ i by omega, if_false]
        exact q3

section
variable {P : Program} {T n : Nat} {ops : Array Oper} {f : Nat → St} {acc : List RW}

/-- The state behind a set of the operations. -/
def gAt (f : Nat → St) (acc : List RW) (S : Nat → Bool) : Nat → St
  | 0 => f 0
  | k + 1 => fun x => if (S k && (rwAt acc k).2.contains x) = true then f (k + 1) x else gAt f acc S k x

theorem step_frame {j : Nat} (h : StepAt P T n ops f acc j) {x : Res} (hx : x ∉ (rwAt acc j).2) : f (j + 1) x = f j x := by
  obtain ⟨o, R, W, _, _, h3, _, h5⟩ := h
  exact h3.frame x (fun hh => hx (h5 x hh))

theorem pred_closed {S : Nat → Bool} (hS : ∀ j o, S j = true → ops[j]? = some o → ∀ e ∈ o.after.toList, Region.binds .any e = true → S e.on = true) : ∀ (fuel j i : Nat), predIn ops fuel j i = true → S j = true → S i = true
  | 0, j, i, h, _ => by cases h
  | fuel + 1, j, i, h, hj => by
    unfold predIn at h
    split at h
    · rename_i o ho
      simp only [List.any_eq_true, Bool.and_eq_true, Bool.or_eq_true, beq_iff_eq] at h
      obtain ⟨e, he, hb, h⟩ := h
      have := hS j o hj ho e he hb
      rcases h with rfl | h
      · exact this
      · exact pred_closed hS fuel e.on i h this
    · cases h

theorem clash_of {a b : RW} {x : Res} (h1 : x ∈ a.2) (h2 : x ∈ b.1 ∨ x ∈ b.2) : clash a b = true := by
  simp only [clash, Bool.or_eq_true, List.any_eq_true, List.contains_iff_mem]
  exact .inl ⟨x, h1, h2⟩

theorem clash_of' {a b : RW} {x : Res} (h1 : x ∈ a.1 ∨ x ∈ a.2) (h2 : x ∈ b.2) : clash a b = true := by
  simp only [clash, Bool.or_eq_true, List.any_eq_true, List.contains_iff_mem]
  rcases h1 with h1 | h1
  · exact .inr ⟨x, h1, h2⟩
  · exact .inl ⟨x, h1, .inr h2⟩

theorem ok_clash (hok : okDraw ops acc = true) {i j : Nat} (hij : i < j) (hj : j < ops.size) (hc : clash (rwAt acc i) (rwAt acc j) = true) : predIn ops ops.size j i = true := by
  unfold okDraw at hok
  simp only [List.all_eq_true, List.mem_range, Bool.and_eq_true] at hok
  have := (hok j hj).2 i hij
  simpa [hc] using this

theorem ok_after (hok : okDraw ops acc = true) {j : Nat} {o : Oper} (ho : ops[j]? = some o) : ∀ e ∈ o.after.toList, Region.binds .any e = true → e.on < j := by
  unfold okDraw at hok
  simp only [List.all_eq_true, List.mem_range, Bool.and_eq_true] at hok
  have hj : j < ops.size := (Array.getElem?_eq_some_iff.1 ho).1
  have := (hok j hj).1
  rw [ho] at this
  simp only [List.all_eq_true] at this
  intro e he hb
  simpa [hb] using this e he

/-- What a ready operation finds is what it found in the one order. -/
theorem g_found (hok : okDraw ops acc = true) (hst : ∀ j, j < ops.size → StepAt P T n ops f acc j) {S : Nat → Bool} (hS : ∀ j o, S j = true → ops[j]? = some o → ∀ e ∈ o.after.toList, Region.binds .any e = true → S e.on = true)
    {i : Nat} (hi : i < ops.size) (hiS : S i = false) (hpre : ∀ o, ops[i]? = some o → ∀ e ∈ o.after.toList, Region.binds .any e = true → S e.on = true) {x : Res} (hx : x ∈ (rwAt acc i).1 ∨ x ∈ (rwAt acc i).2) :
    (∀ k, k ≤ i → gAt f acc S k x = f k x) ∧ (∀ k, i ≤ k → k ≤ ops.size → gAt f acc S k x = gAt f acc S i x) := by
  have hS2 : ∀ j o, (S j = true ∨ j = i) → ops[j]? = some o → ∀ e ∈ o.after.toList, Region.binds .any e = true → S e.on = true := by
    rintro j o (h | rfl) ho
    · exact hS j o h ho
    · exact hpre o ho
  have hpred : ∀ k, predIn ops ops.size i k = true → S k = true := by
    intro k hk
    cases hsz : ops.size with
    | zero => omega
    | succ fuel =>
      rw [hsz] at hk
      unfold predIn at hk
      split at hk
      · rename_i o ho
        simp only [List.any_eq_true, Bool.and_eq_true, Bool.or_eq_true, beq_iff_eq] at hk
        obtain ⟨e, he, hb, hk⟩ := hk
        have := hpre o ho e he hb
        rcases hk with rfl | hk
        · exact this
        · exact pred_closed hS fuel e.on k hk this
      · cases hk
  constructor
  · intro k
    induction k with
    | zero => intro _; rfl
    | succ k ih =>
      intro hk
      simp only [gAt]
      split
      · rfl
      · rename_i hn
        rw [ih (by omega)]
        by_cases hw : x ∈ (rwAt acc k).2
        · exfalso
          have := hpred k (ok_clash hok (by omega) hi (clash_of hw hx))
          exact hn (by simp [this, hw])
        · exact (step_frame (hst k (by omega)) hw).symm
  · intro k
    induction k with
    | zero => intro h _; have : i = 0 := by omega
              subst this; rfl
    | succ k ih =>
      intro h1 h2
      by_cases he : i = k + 1
      · subst he; rfl
      · simp only [gAt]
        rw [if_neg]
        · exact ih (by omega) (by omega)
        · intro hn
          simp only [Bool.and_eq_true, List.contains_iff_mem] at hn
          by_cases hki : k = i
          · subst hki; rw [hiS] at hn; cases hn.1
          · have := pred_closed hS ops.size k i (ok_clash hok (by omega) (by omega) (clash_of' hx hn.2)) hn.1
            rw [hiS] at this; cases this

/-- One operation more. -/
theorem g_step (hok : okDraw ops acc = true) (hst : ∀ j, j < ops.size → StepAt P T n ops f acc j) {S S' : Nat → Bool} (hS : ∀ j o, S j = true → ops[j]? = some o → ∀ e ∈ o.after.toList, Region.binds .any e = true → S e.on = true)
    {i : Nat} (hi : i < ops.size) (hiS : S i = false) (hpre : ∀ o, ops[i]? = some o → ∀ e ∈ o.after.toList, Region.binds .any e = true → S e.on = true) (hS' : S' i = true) (hsame : ∀ j, j ≠ i → S' j = S j) :
    ∃ o R W, ops[i]? = some o ∧ dstOk T o.dst ∧ Run (stepP P (n + 64 * i) ops o) (gAt f acc S ops.size) () (gAt f acc S' ops.size) R W := by
  obtain ⟨o, R, W, h1, h2, h3, h4, h5⟩ := hst i hi
  have found : ∀ x, (x ∈ (rwAt acc i).1 ∨ x ∈ (rwAt acc i).2) → gAt f acc S ops.size x = f i x := fun x hx => by
    obtain ⟨a1, a2⟩ := g_found hok hst hS hi hiS hpre hx
    rw [a2 ops.size (by omega) (Nat.le_refl _), a1 i (Nat.le_refl _)]
  obtain ⟨st2, r2, e2⟩ := h3.local (gAt f acc S ops.size) (fun x hx => found x (hx.imp (h4 x) (h5 x)))
  have hin : ∀ x, x ∈ (rwAt acc i).2 → gAt f acc S' ops.size x = f (i + 1) x := by
    intro x hx
    have key : ∀ k, i + 1 ≤ k → k ≤ ops.size → gAt f acc S' k x = f (i + 1) x := by
      intro k
      induction k with
      | zero => intro h _; omega
      | succ k ih =>
        intro h6 h7
        simp only [gAt]
        by_cases hk : k = i
        · subst hk
          rw [if_pos (by simp [hS', hx])]
        · rw [if_neg, ih (by omega) (by omega)]
          intro hn
          simp only [Bool.and_eq_true, List.contains_iff_mem] at hn
          rw [hsame k hk] at hn
          have := pred_closed hS ops.size k i (ok_clash hok (by omega) (by omega) (clash_of hx (.inr hn.2))) hn.1
          rw [hiS] at this; cases this
    exact key _ hi (Nat.le_refl _)
  have hout : ∀ x, x ∉ (rwAt acc i).2 → gAt f acc S' ops.size x = gAt f acc S ops.size x := by
    intro x hx
    have key : ∀ k, gAt f acc S' k x = gAt f acc S k x := by
      intro k
      induction k with
      | zero => rfl
      | succ k ih =>
        simp only [gAt]
        by_cases hk : k = i
        · subst hk
          rw [if_neg (by simp [hx]), if_neg (by simp [hx]), ih]
        · rw [hsame k hk, ih]
    exact key _
  have e : st2 = gAt f acc S' ops.size := by
    funext x
    by_cases hw : x ∈ W
    · rw [e2 x hw, hin x (h5 x hw)]
    · rw [r2.frame x hw]
      by_cases hw2 : x ∈ (rwAt acc i).2
      · rw [hin x hw2, found x (.inr hw2), h3.frame x hw]
      · rw [hout x hw2]
  subst e
  exact ⟨o, R, W, h1, h2, r2⟩

theorem g_all (hst : ∀ j, j < ops.size → StepAt P T n ops f acc j) {S : Nat → Bool} (hS : ∀ j, j < ops.size → S j = true) : ∀ k, k ≤ ops.size → gAt f acc S k = f k
  | 0, _ => rfl
  | k + 1, hk => by
    funext x
    simp only [gAt, hS k (by omega), Bool.true_and]
    split
    · rfl
    · rename_i hn
      rw [g_all hst hS k (by omega)]
      exact (step_frame (hst k (by omega)) (by simpa using hn)).symm

end
end Go.Proofs.Ytdoboiiilcgbnaa.L
