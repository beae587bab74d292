/- WHAT IS PROVED: an abstract walker over the model, what some functions of the program answer, and laws of these answers. Conditions: none. -/
import Derived.Test.YtdlaplgofgklnaaDoorKd12
namespace Go.Proofs.YtdlaplgofgklnaaDoor
open Go.Proofs Go.Proofs.YtdlaplgofgklnaaDoor.L
set_option linter.unusedVariables false
set_option linter.unusedSimpArgs false
theorem take_set_next {α : Type} {acc l : List α} {i : Nat} {m : α} (hl : acc.length = l.length) (h : acc.take i = l.take i) (hm : l[i]? = some m) : (acc.set i m).take (i + 1) = l.take (i + 1) := by
  have hi := (List.getElem?_eq_some_iff.1 hm).1
  rw [List.take_add_one, List.take_add_one, List.take_set_of_le (Nat.le_refl i), h, List.getElem?_set_self (by omega), hm]
theorem toInsS_l (l : List GI2) (hn : l.length < 4611686018427387904) : ∀ (d i : Nat) (acc : List GI2), l.length - i = d → i ≤ l.length → acc.length = l.length → acc.take i = l.take i →
    Ev (fun k => laws_toInsS.l1 k acc l (i : Int)) l := by
  intro d
  induction d with
  | zero =>
    intro i acc hd hi ha ht
    have : i = l.length := by omega
    subst this
    refine Ev.succ ?_
    simp only [laws_toInsS.l1]
    refine Ev.cf (df (by omega)) ?_
    rw [List.take_of_length_le (by omega), List.take_of_length_le (by omega)] at ht
    rw [ht]; exact Ev.pure
  | succ d ih =>
    intro i acc hd hi ha ht
    obtain ⟨m, hm⟩ := list_get (show i < l.length by omega)
    obtain ⟨m', hm'⟩ := list_get (show i < acc.length by omega)
    refine Ev.succ ?_
    simp only [laws_toInsS.l1, laws_toIns]
    refine Ev.ct (dt (by omega)) (Ev.idx hm (Ev.bind Ev.pure (Ev.idx hm' ?_)))
    rw [wrap_nat (by omega), Int.toNat_natCast]
    exact ih (i + 1) _ (by omega) (by omega) (by simpa using ha) (take_set_next ha ht hm)
theorem toInsS_ev {l : List GI2} (h : l.length * 16 ≤ 35184372088832) : Ev (fun k => laws_toInsS k l) l := by
  unfold laws_toInsS
  refine Ev.gd ⟨by omega, by omega, by omega⟩ (Ev.bind (toInsS_l l (by omega) _ 0 _ rfl (by omega) (by simp) (by simp)) Ev.pure)
theorem toFunc_ev {f : GFunc} (h : f.code.length * 16 ≤ 35184372088832) : Ev (fun k => laws_toFunc k f) f :=
  Ev.bind (toInsS_ev h) Ev.pure
theorem toFuncS_l (l : List GFunc) (hn : l.length < 4611686018427387904) (hc : ∀ f ∈ l, f.code.length * 16 ≤ 35184372088832) : ∀ (d i : Nat) (acc : List GFunc), l.length - i = d → i ≤ l.length → acc.length = l.length → acc.take i = l.take i →
    Ev (fun k => laws_toFuncS.l1 k acc l (i : Int)) l := by
  intro d
  induction d with
  | zero =>
    intro i acc hd hi ha ht
    have : i = l.length := by omega
    subst this
    refine Ev.succ ?_
    simp only [laws_toFuncS.l1]
    refine Ev.cf (df (by omega)) ?_
    rw [List.take_of_length_le (by omega), List.take_of_length_le (by omega)] at ht
    rw [ht]; exact Ev.pure
  | succ d ih =>
    intro i acc hd hi ha ht
    obtain ⟨m, hm⟩ := list_get (show i < l.length by omega)
    obtain ⟨m', hm'⟩ := list_get (show i < acc.length by omega)
    refine Ev.succ ?_
    simp only [laws_toFuncS.l1]
    refine Ev.ct (dt (by omega)) (Ev.idx hm (Ev.bind (toFunc_ev (hc m (List.mem_of_getElem? hm))) (Ev.idx hm' ?_)))
    rw [wrap_nat (by omega), Int.toNat_natCast]
    exact ih (i + 1) _ (by omega) (by omega) (by simpa using ha) (take_set_next ha ht hm)
structure Small (p : GProgram) : Prop where
  funcs : p.funcs.length ≤ 1048576
  code : ∀ f ∈ p.funcs, f.code.length ≤ 1048576
theorem toProgram_ev {p : GProgram} (h : Small p) : Ev (fun k => laws_toProgram k p) p := by
  have h1 := h.funcs
  refine Ev.bind (a := p.funcs) ?_ Ev.pure
  unfold laws_toFuncS
  refine Ev.gd ⟨by omega, by omega, by omega⟩ (Ev.bind (toFuncS_l p.funcs (by omega) (fun f hf => by have := h.code f hf; omega) _ 0 _ rfl (by omega) (by simp) (by simp)) Ev.pure)
theorem szInsS_ev (l : List GI2) (n : Int) (h0 : 0 ≤ n) (h1 : n ≤ 1048576) (h : l.length ≤ 9223372036854775807) : laws_szInsS l n = some (if n < l.length then -1 else n - l.length) := by
  unfold laws_szInsS
  rw [wrap_id (by omega) (by omega)]
  by_cases c : n < l.length
  · rw [dt (by omega), if_pos c]; rfl
  · rw [df (by omega), if_neg c]; rfl
theorem szFunc_ev (f : GFunc) (n : Int) (h0 : 0 ≤ n) (h1 : n ≤ 1048576) (h : f.code.length ≤ 9223372036854775807) : laws_szFunc f n = some (if n < f.code.length then -1 else n - f.code.length) := by
  unfold laws_szFunc
  rw [szInsS_ev _ _ h0 h1 h]
  show cond _ _ _ = _
  by_cases c : n < f.code.length
  · rw [if_pos c]; rfl
  · rw [if_neg c, df (by omega)]; rfl
theorem szFuncS_l (l : List GFunc) (hn : l.length ≤ 1048576) (hc : ∀ f ∈ l, f.code.length ≤ 9223372036854775807) : ∀ (d i : Nat) (n : Int), l.length - i = d → i ≤ l.length → 0 ≤ n → n ≤ 1048576 →
    ∃ r, Ev (fun k => laws_szFuncS.l1 k l n (i : Int)) r ∧ ((∃ x, r = .inl x ∧ x = -1) ∨ ∃ x, r = .inr x ∧ 0 ≤ x ∧ x ≤ n ∧ ∀ j f, i ≤ j → l[j]? = some f → f.code.length ≤ n) := by
  intro d
  induction d with
  | zero =>
    intro i n hd hi h0 h1
    refine ⟨.inr n, ?_, .inr ⟨n, rfl, h0, Int.le_refl _, fun j f hj hf => ?_⟩⟩
    · refine Ev.succ ?_
      simp only [laws_szFuncS.l1]
      exact Ev.cf (df (by omega)) Ev.pure
    · have := (List.getElem?_eq_some_iff.1 hf).1
      omega
  | succ d ih =>
    intro i n hd hi h0 h1
    obtain ⟨m, hm⟩ := list_get (show i < l.length by omega)
    by_cases c : n < m.code.length
    · refine ⟨.inl (-1), ?_, .inl ⟨_, rfl, rfl⟩⟩
      refine Ev.succ ?_
      simp only [laws_szFuncS.l1]
      refine Ev.ct (dt (by omega)) (Ev.idx hm ?_)
      simp only [szFunc_ev m n h0 h1 (hc m (List.mem_of_getElem? hm)), if_pos c, Option.bind_some]
      exact Ev.ct (dt (by omega)) Ev.pure
    · obtain ⟨r, hr, h⟩ := ih (i + 1) (n - m.code.length) (by omega) (by omega) (by omega) (by omega)
      refine ⟨r, ?_, ?_⟩
      · refine Ev.succ ?_
        simp only [laws_szFuncS.l1]
        refine Ev.ct (dt (by omega)) (Ev.idx hm ?_)
        simp only [szFunc_ev m n h0 h1 (hc m (List.mem_of_getElem? hm)), if_neg c, Option.bind_some]
        refine Ev.cf (df (by omega)) ?_
        rw [wrap_nat (by omega)]
        exact hr
      · rcases h with h | ⟨x, rfl, h2, h3, h4⟩
        · exact .inl h
        · refine .inr ⟨x, rfl, h2, by omega, fun j f hj hf => ?_⟩
          rcases Nat.lt_or_ge i j with hij | hij
          · have := h4 j f hij hf; omega
          · have : j = i := by omega
            subst this
            rw [hm] at hf
            cases hf
            omega
theorem szProgram_ev (p : GProgram) (hn : p.funcs.length ≤ 9223372036854775807) (hc : ∀ f ∈ p.funcs, f.code.length ≤ 9223372036854775807) :
    ∃ t, Ev (fun k => laws_szProgram k p 1048576) t ∧ (t < 0 ∨ (0 ≤ t ∧ Small p)) := by
  by_cases c : (1048576 : Int) < p.funcs.length
  · refine ⟨-1, ?_, .inl (by omega)⟩
    refine Ev.bind (a := -1) ?_ (Ev.ct (dt (by omega)) Ev.pure)
    unfold laws_szFuncS
    rw [wrap_id (by omega) (by omega)]
    exact Ev.ct (dt (by omega)) Ev.pure
  · obtain ⟨r, hr, h⟩ := szFuncS_l p.funcs (by omega) hc _ 0 (1048576 - p.funcs.length) rfl (by omega) (by omega) (by omega)
    have key : ∀ x, (r = .inl x ∨ r = .inr x) → Ev (fun k => laws_szFuncS k p.funcs 1048576) x := by
      intro x hx
      unfold laws_szFuncS
      rw [wrap_id (by omega) (by omega)]
      refine Ev.cf (df (by omega)) (Ev.bind hr ?_)
      rcases hx with rfl | rfl <;> exact Ev.pure
    rcases h with ⟨x, rfl, rfl⟩ | ⟨x, rfl, h1, h2, h3⟩
    · exact ⟨-1, Ev.bind (key _ (.inl rfl)) (Ev.ct (dt (by omega)) Ev.pure), .inl (by omega)⟩
    · refine ⟨x, Ev.bind (key _ (.inr rfl)) (Ev.cf (df (by omega)) Ev.pure), .inr ⟨h1, ⟨by omega, fun f hf => ?_⟩⟩⟩
      obtain ⟨j, hj⟩ := List.getElem?_of_mem hf
      have := h3 j f (by omega) hj
      omega
theorem eqIns_same (x : GI2) : laws_eqIns x x = some true := by simp [laws_eqIns]
theorem eqInsS_l (l : List GI2) (hn : l.length < 4611686018427387904) : ∀ (d i : Nat), l.length - i = d → i ≤ l.length → Ev (fun k => laws_eqInsS.l1 k l l (i : Int)) (.inr ()) := by
  intro d
  induction d with
  | zero =>
    intro i hd hi
    refine Ev.succ ?_
    simp only [laws_eqInsS.l1]
    exact Ev.cf (df (by omega)) Ev.pure
  | succ d ih =>
    intro i hd hi
    obtain ⟨m, hm⟩ := list_get (show i < l.length by omega)
    refine Ev.succ ?_
    simp only [laws_eqInsS.l1, eqIns_same]
    refine Ev.ct (dt (by omega)) (Ev.idx hm (Ev.idx hm (Ev.bind (eqIns_same m ▸ Ev.pure) (Ev.cf (by simp) ?_))))
    rw [wrap_nat (by omega)]
    exact ih (i + 1) (by omega) (by omega)
theorem eqInsS_ev (l : List GI2) (hn : l.length < 4611686018427387904) : Ev (fun k => laws_eqInsS k l l) true := by
  unfold laws_eqInsS
  refine Ev.cf (by simp) (Ev.bind (eqInsS_l l hn _ 0 rfl (by omega)) Ev.pure)
theorem eqFunc_ev (f : GFunc) (hn : f.code.length < 4611686018427387904) : Ev (fun k => laws_eqFunc k f f) true := by
  unfold laws_eqFunc
  refine Ev.cf (by simp) (Ev.cf (by simp) (Ev.bind (eqInsS_ev _ hn) (Ev.cf (by simp) Ev.pure)))
theorem eqFuncS_l (l : List GFunc) (hn : l.length < 4611686018427387904) (hc : ∀ f ∈ l, f.code.length < 4611686018427387904) : ∀ (d i : Nat), l.length - i = d → i ≤ l.length → Ev (fun k => laws_eqFuncS.l1 k l l (i : Int)) (.inr ()) := by
  intro d
  induction d with
  | zero =>
    intro i hd hi
    refine Ev.succ ?_
    simp only [laws_eqFuncS.l1]
    exact Ev.cf (df (by omega)) Ev.pure
  | succ d ih =>
    intro i hd hi
    obtain ⟨m, hm⟩ := list_get (show i < l.length by omega)
    refine Ev.succ ?_
    simp only [laws_eqFuncS.l1]
    refine Ev.ct (dt (by omega)) (Ev.idx hm (Ev.idx hm (Ev.bind (eqFunc_ev m (hc m (List.mem_of_getElem? hm))) (Ev.cf (by simp) ?_))))
    rw [wrap_nat (by omega)]
    exact ih (i + 1) (by omega) (by omega)
theorem eqProgram_ev {p : GProgram} (h : Small p) : Ev (fun k => laws_eqProgram k p p) true := by
  have h1 := h.funcs
  refine Ev.bind (a := true) ?_ (Ev.cf (by simp) Ev.pure)
  unfold laws_eqFuncS
  refine Ev.cf (by simp) (Ev.bind (eqFuncS_l p.funcs (by omega) (fun f hf => by have := h.code f hf; omega) _ 0 rfl (by omega)) Ev.pure)
def takesL (p : GProgram) (i : GI2) : Int :=
  if (10 ≤ i.a ∧ i.a ≤ 23) ∨ i.a = 35 then 2 else if i.a = 36 then 3 else if i.a = 32 then (if 0 ≤ i.b then match p.funcs[i.b.toNat]? with | some f => f.args | none => 0 else 0)
  else if 24 ≤ i.a ∧ i.a ≤ 29 then 1 else if i.a = 3 ∨ i.a = 4 ∨ i.a = 5 ∨ i.a = 31 ∨ i.a = 33 ∨ i.a = 34 ∨ i.a = 37 ∨ i.a = 38 then 1 else 0
def putsL (i : GI2) : Int :=
  if i.a = 4 then 2 else if i.a = 1 ∨ i.a = 2 ∨ i.a = 32 ∨ i.a = 34 ∨ i.a = 35 ∨ i.a = 37 ∨ (10 ≤ i.a ∧ i.a ≤ 29) then 1 else 0
def nextL (i : GI2) (x : Int) : List Int := if i.a = 33 then [] else if i.a = 30 then [i.b] else if i.a = 31 then [x + 1, i.b] else [x + 1]
theorem putsL_range (i : GI2) : 0 ≤ putsL i ∧ putsL i ≤ 2 := by unfold putsL; split <;> (try split) <;> omega
theorem op_cases (a : Int) : (a = 0 ∨ a = 1 ∨ a = 2 ∨ a = 3 ∨ a = 4 ∨ a = 5 ∨ a = 6 ∨ a = 7 ∨ a = 8 ∨ a = 9 ∨ a = 10 ∨ a = 11 ∨ a = 12 ∨ a = 13 ∨ a = 14 ∨ a = 15 ∨ a = 16 ∨ a = 17 ∨ a = 18 ∨ a = 19 ∨ a = 20 ∨ a = 21 ∨ a = 22 ∨ a = 23 ∨ a = 24 ∨ a = 25 ∨ a = 26 ∨ a = 27 ∨ a = 28 ∨ a = 29 ∨ a = 30 ∨ a = 31 ∨ a = 32 ∨ a = 33 ∨ a = 34 ∨ a = 35 ∨ a = 36 ∨ a = 37 ∨ a = 38) ∨ (a < 0 ∨ 38 < a) := by omega
theorem specTakes (k : Nat) (p : GProgram) (i : GI2) : spec_Takes k p i = some (takesL p i) := by
  obtain ⟨fs⟩ := p
  obtain ⟨a, b⟩ := i
  rcases op_cases a with (rfl | rfl | rfl | rfl | rfl | rfl | rfl | rfl | rfl | rfl | rfl | rfl | rfl | rfl | rfl | rfl | rfl | rfl | rfl | rfl | rfl | rfl | rfl | rfl | rfl | rfl | rfl | rfl | rfl | rfl | rfl | rfl | rfl | rfl | rfl | rfl | rfl | rfl | rfl) | h
  all_goals (try rfl)
  · unfold spec_Takes spec_Takes.a1 spec_Takes.a2 spec_l03Binary spec_l03Unary takesL
    by_cases hb : b < 0
    · simp [hb, show ¬ 0 ≤ b by omega]
    · by_cases hc : (fs.length : Int) ≤ b
      · have : fs[b.toNat]? = none := List.getElem?_eq_none (by omega)
        simp [hb, hc, show 0 ≤ b by omega, this]
      · obtain ⟨m, hm⟩ := list_get (show b.toNat < fs.length by omega)
        simp [hb, hc, show 0 ≤ b by omega, hm, idx_of]
  · have e : ∀ c : Int, 0 ≤ c → c ≤ 38 → (a == c) = false := by intro c h1 h2; simp; omega
    have e2 : ∀ c : Int, 0 ≤ c → c ≤ 38 → ¬ a = c := by intro c h1 h2; omega
    have r1 : ¬ (10 ≤ a ∧ a ≤ 23) := by omega
    have r2 : ¬ (24 ≤ a ∧ a ≤ 29) := by omega
    unfold spec_Takes spec_Takes.a1 spec_Takes.a2 spec_l03Binary spec_l03Unary takesL
    rcases h with h | h
    · simp [e, e2, show ¬ 10 ≤ a by omega, show ¬ 24 ≤ a by omega]
    · simp [e, e2, show 10 ≤ a by omega, show 24 ≤ a by omega, show ¬ a ≤ 23 by omega, show ¬ a ≤ 29 by omega]
theorem implTakes (k : Nat) (p : GProgram) (i : GI2) : impl_Takes k p i = some (takesL p i) := by
  obtain ⟨fs⟩ := p
  obtain ⟨a, b⟩ := i
  rcases op_cases a with (rfl | rfl | rfl | rfl | rfl | rfl | rfl | rfl | rfl | rfl | rfl | rfl | rfl | rfl | rfl | rfl | rfl | rfl | rfl | rfl | rfl | rfl | rfl | rfl | rfl | rfl | rfl | rfl | rfl | rfl | rfl | rfl | rfl | rfl | rfl | rfl | rfl | rfl | rfl) | h
  all_goals (try rfl)
  · unfold impl_Takes impl_Takes.a1 impl_Takes.a2 impl_isBinary impl_isUnary impl_hasFunc impl_in takesL
    by_cases hb : 0 ≤ b
    · by_cases hc : b < (fs.length : Int)
      · obtain ⟨m, hm⟩ := list_get (show b.toNat < fs.length by omega)
        simp [hb, hc, hm, idx_of]
      · have : fs[b.toNat]? = none := List.getElem?_eq_none (by omega)
        simp [hb, hc, this]
    · simp [hb]
  · have e : ∀ c : Int, 0 ≤ c → c ≤ 38 → (a == c) = false := by intro c h1 h2; simp; omega
    have e2 : ∀ c : Int, 0 ≤ c → c ≤ 38 → ¬ a = c := by intro c h1 h2; omega
    unfold impl_Takes impl_Takes.a1 impl_Takes.a2 impl_isBinary impl_isUnary impl_hasFunc impl_in takesL
    rcases h with h | h
    · simp [e, e2, show ¬ 10 ≤ a by omega, show ¬ 24 ≤ a by omega]
    · simp [e, e2, show 10 ≤ a by omega, show 24 ≤ a by omega, show ¬ a ≤ 23 by omega, show ¬ a ≤ 29 by omega]
theorem specPuts (k : Nat) (i : GI2) : spec_Puts k i = some (putsL i) := by
  obtain ⟨a, b⟩ := i
  rcases op_cases a with (rfl | rfl | rfl | rfl | rfl | rfl | rfl | rfl | rfl | rfl | rfl | rfl | rfl | rfl | rfl | rfl | rfl | rfl | rfl | rfl | rfl | rfl | rfl | rfl | rfl | rfl | rfl | rfl | rfl | rfl | rfl | rfl | rfl | rfl | rfl | rfl | rfl | rfl | rfl) | h
  all_goals (try rfl)
  have e : ∀ c : Int, 0 ≤ c → c ≤ 38 → (a == c) = false := by intro c h1 h2; simp; omega
  have e2 : ∀ c : Int, 0 ≤ c → c ≤ 38 → ¬ a = c := by intro c h1 h2; omega
  unfold spec_Puts spec_Puts.a1 spec_l03Binary spec_l03Unary putsL
  rcases h with h | h
  · simp [e, e2, show ¬ 10 ≤ a by omega, show ¬ 24 ≤ a by omega]
  · simp [e, e2, show 10 ≤ a by omega, show 24 ≤ a by omega, show ¬ a ≤ 23 by omega, show ¬ a ≤ 29 by omega]
theorem implPuts (i : GI2) : impl_Puts i = some (putsL i) := by
  obtain ⟨a, b⟩ := i
  rcases op_cases a with (rfl | rfl | rfl | rfl | rfl | rfl | rfl | rfl | rfl | rfl | rfl | rfl | rfl | rfl | rfl | rfl | rfl | rfl | rfl | rfl | rfl | rfl | rfl | rfl | rfl | rfl | rfl | rfl | rfl | rfl | rfl | rfl | rfl | rfl | rfl | rfl | rfl | rfl | rfl) | h
  all_goals (try rfl)
  have e : ∀ c : Int, 0 ≤ c → c ≤ 38 → (a == c) = false := by intro c h1 h2; simp; omega
  have e2 : ∀ c : Int, 0 ≤ c → c ≤ 38 → ¬ a = c := by intro c h1 h2; omega
  unfold impl_Puts impl_isArith impl_in putsL
  rcases h with h | h
  · simp [e, e2, show ¬ 10 ≤ a by omega]
  · simp [e, e2, show 10 ≤ a by omega, show ¬ a ≤ 29 by omega]
theorem implNext (i : GI2) (x : Nat) (h : x < 1000000) : impl_next i (x : Int) = some (nextL i x) := by
  unfold impl_next nextL
  rw [wrap_id (by omega) (by omega)]
  have e : ∀ c : Int, ¬ i.a = c → (i.a == c) = false := by intro c h1; simp; exact h1
  by_cases h1 : i.a = 33 <;> by_cases h2 : i.a = 30 <;> by_cases h3 : i.a = 31 <;> simp [h1, h2, h3, e]
theorem nextL_length (i : GI2) (x : Int) : (nextL i x).length ≤ 2 := by
  unfold nextL
  split <;> (try split) <;> (try split) <;> simp
def putN (len : Nat) (v : Int) : List Int → List Int → List Bool → Option (List Int × List Bool)
  | [], h, w => some (h, w)
  | n :: ns, h, w => if (len : Int) ≤ n then none else match h[n.toNat]? with
    | none => none
    | some x => if 0 ≤ x then (if x = v then putN len v ns h w else none) else putN len v ns (h.set n.toNat v) (w.set n.toNat true)
abbrev StepF := Nat → List Int → List Bool → Option (List Int × List Bool)
def stepI (p : GProgram) (code : List GI2) : StepF := fun x h w => match code[x]?, h[x]? with
  | some i, some y => if IntKind.i64.wrap (y - takesL p i) < 0 then none else if 8 < IntKind.i64.wrap (IntKind.i64.wrap (y - takesL p i) + putsL i) then none
      else putN code.length (IntKind.i64.wrap (IntKind.i64.wrap (y - takesL p i) + putsL i)) (nextL i x) h (w.set x false)
  | _, _ => none
def stepS (p : GProgram) (code : List GI2) : StepF := fun x h w => match code[x]?, h[x]? with
  | some i, some y => if y < takesL p i then none else if 8 < IntKind.i64.wrap (IntKind.i64.wrap (y - takesL p i) + putsL i) then none
      else putN code.length (IntKind.i64.wrap (IntKind.i64.wrap (y - takesL p i) + putsL i)) (nextL i x) h (w.set x false)
  | _, _ => none
def Least (w : List Bool) (x : Nat) : Prop := w[x]? = some true ∧ ∀ j, j < x → w[j]? ≠ some true
inductive HRun (st : StepF) : List Int → List Bool → Option (List Int) → Prop
  | done {h : List Int} {w : List Bool} : (∀ j : Nat, w[j]? ≠ some true) → HRun st h w (some h)
  | bad {h : List Int} {w : List Bool} {x : Nat} : Least w x → st x h w = none → HRun st h w none
  | go {h h' : List Int} {w w' : List Bool} {x : Nat} {r : Option (List Int)} : Least w x → st x h w = some (h', w') → HRun st h' w' r → HRun st h w r
theorem least_or (w : List Bool) : (∀ j : Nat, w[j]? ≠ some true) ∨ ∃ x, Least w x := by
  by_cases h : ∃ j : Nat, w[j]? = some true
  · right
    obtain ⟨j, hj⟩ := h
    induction j using Nat.strongRecOn with
    | _ j ih =>
      by_cases c : ∃ i, i < j ∧ w[i]? = some true
      · obtain ⟨i, hi, hw⟩ := c
        exact ih i hi hw
      · exact ⟨j, hj, fun i hi hw => c ⟨i, hi, hw⟩⟩
  · left
    intro j hj
    exact h ⟨j, hj⟩
theorem wrap64_eq (x : Int) : IntKind.i64.wrap x = if x % 18446744073709551616 ≥ 9223372036854775808 then x % 18446744073709551616 - 18446744073709551616 else x % 18446744073709551616 := by
  simp [IntKind.wrap, IntKind.bits, IntKind.signed]
def cw (N j : Nat) (x : Int) (b : Bool) : Nat := (if x < 0 then 3 * N else 0) + (if b then (if x < 0 then N - j else 3 * N) else 0)
def mz (N : Nat) : Nat → List Int → List Bool → Nat
  | j, x :: h, b :: w => cw N j x b + mz N (j + 1) h w
  | _, _, _ => 0
theorem mz_set (N : Nat) : ∀ (j : Nat) (h : List Int) (w : List Bool) (i : Nat) (x : Int) (b : Bool) (x' : Int) (b' : Bool), h[i]? = some x → w[i]? = some b → mz N j (h.set i x') (w.set i b') + cw N (j + i) x b = mz N j h w + cw N (j + i) x' b'
  | j, [], w, i, x, b, x', b', h1, h2 => by simp at h1
  | j, y :: h, [], i, x, b, x', b', h1, h2 => by simp at h2
  | j, y :: h, c :: w, 0, x, b, x', b', h1, h2 => by
    simp at h1 h2
    subst h1 h2
    simp only [List.set_cons_zero, mz, Nat.add_zero]
    omega
  | j, y :: h, c :: w, i + 1, x, b, x', b', h1, h2 => by
    simp only [List.getElem?_cons_succ] at h1 h2
    simp only [List.set_cons_succ, mz]
    have := mz_set N (j + 1) h w i x b x' b' h1 h2
    rw [show j + 1 + i = j + (i + 1) by omega] at this
    omega
theorem set_same {α : Type} {l : List α} {i : Nat} {x : α} (h : l[i]? = some x) : l.set i x = l := by
  apply List.ext_getElem?
  intro j
  by_cases e : i = j
  · subst e
    rw [List.getElem?_set_self (List.getElem?_eq_some_iff.1 h).1, h]
  · rw [List.getElem?_set_ne e]
theorem mz_setw {N : Nat} {h : List Int} {w : List Bool} {i : Nat} {x : Int} {b : Bool} (b' : Bool) (h1 : h[i]? = some x) (h2 : w[i]? = some b) : mz N 0 h (w.set i b') + cw N i x b = mz N 0 h w + cw N i x b' := by
  have := mz_set N 0 h w i x b x b' h1 h2
  rw [Nat.zero_add] at this
  rwa [set_same h1] at this
structure HInv (A : Int → Prop) (W : Int → Prop) (h : List Int) (w : List Bool) : Prop where
  len : h.length = w.length
  all : ∀ (j : Nat) (x : Int), h[j]? = some x → A x
  wt : ∀ (j : Nat) (x : Int), h[j]? = some x → w[j]? = some true → W x
theorem HInv.drop {A W : Int → Prop} {h : List Int} {w : List Bool} (i : HInv A W h w) (x : Nat) : HInv A W h (w.set x false) := by
  refine ⟨by simpa using i.len, i.all, fun j y h1 h2 => ?_⟩
  by_cases e : x = j
  · subst e
    rw [List.getElem?_set_self (by have := (List.getElem?_eq_some_iff.1 h1).1; have := i.len; omega)] at h2
    cases h2
  · rw [List.getElem?_set_ne e] at h2
    exact i.wt j y h1 h2
theorem HInv.put {A W : Int → Prop} {h : List Int} {w : List Bool} (i : HInv A W h w) (x : Nat) {v : Int} (hA : A v) (hW : W v) : HInv A W (h.set x v) (w.set x true) := by
  refine ⟨by simpa using i.len, fun j y h1 => ?_, fun j y h1 h2 => ?_⟩
  · by_cases e : x = j
    · subst e
      by_cases hx : x < h.length
      · rw [List.getElem?_set_self hx] at h1; cases h1; exact hA
      · rw [List.getElem?_eq_none (by simp; omega)] at h1; cases h1
    · rw [List.getElem?_set_ne e] at h1; exact i.all j y h1
  · by_cases e : x = j
    · subst e
      by_cases hx : x < h.length
      · rw [List.getElem?_set_self hx] at h1; cases h1; exact hW
      · rw [List.getElem?_eq_none (by simp; omega)] at h1; cases h1
    · rw [List.getElem?_set_ne e] at h1 h2; exact i.wt j y h1 h2
def more (N : Nat) : List Int → Nat
  | [] => 0
  | n :: ns => (N - n.toNat) + more N ns
theorem putN_inv {A W : Int → Prop} {len : Nat} {v : Int} (N : Nat) (hA : A v) (hW : W v) : ∀ (ns : List Int) (h : List Int) (w : List Bool) (h' : List Int) (w' : List Bool), HInv A W h w → putN len v ns h w = some (h', w') →
    HInv A W h' w' ∧ h'.length = h.length ∧ mz N 0 h' w' ≤ mz N 0 h w + (if v < 0 then more N ns else 0)
  | [], h, w, h', w', hi, hp => by
    simp only [putN, Option.some.injEq, Prod.mk.injEq] at hp
    obtain ⟨rfl, rfl⟩ := hp
    exact ⟨hi, rfl, by simp⟩
  | n :: ns, h, w, h', w', hi, hp => by
    simp only [putN] at hp
    split at hp
    · cases hp
    split at hp
    · cases hp
    rename_i x hx
    split at hp
    · split at hp
      · obtain ⟨h1, h2, h3⟩ := putN_inv N hA hW ns h w h' w' hi hp
        refine ⟨h1, h2, ?_⟩
        simp only [more]
        split at h3 <;> simp_all <;> omega
      · cases hp
    · rename_i hneg
      obtain ⟨h1, h2, h3⟩ := putN_inv N hA hW ns _ _ h' w' (hi.put n.toNat hA hW) hp
      obtain ⟨b, hb⟩ := list_get (show n.toNat < w.length by have := (List.getElem?_eq_some_iff.1 hx).1; have := hi.len; omega)
      have hm := mz_set N 0 h w n.toNat x b v true hx hb
      rw [Nat.zero_add] at hm
      refine ⟨h1, by simpa using h2, ?_⟩
      have c1 : 3 * N ≤ cw N n.toNat x b := by unfold cw; rw [if_pos (by omega)]; omega
      have c2 : cw N n.toNat v true ≤ 3 * N + (if v < 0 then N - n.toNat else 0) := by unfold cw; split <;> simp
      simp only [more]
      split at h3
      · rename_i c; rw [if_pos c] at c2; rw [if_pos c]; omega
      · rename_i c; rw [if_neg c] at c2; rw [if_neg c]; omega
def Good (len : Nat) (A W : Int → Prop) (st : StepF) : Prop := ∀ (x : Nat) (h : List Int) (w : List Bool) (h' : List Int) (w' : List Bool), h.length = len → HInv A W h w → w[x]? = some true → st x h w = some (h', w') →
  HInv A W h' w' ∧ h'.length = h.length ∧ mz (len + 1) 0 h' w' < mz (len + 1) 0 h w
theorem run_ex {len : Nat} {A W : Int → Prop} {st : StepF} (g : Good len A W st) : ∀ (n : Nat) (h : List Int) (w : List Bool), mz (len + 1) 0 h w = n → h.length = len → HInv A W h w → ∃ r, HRun st h w r := by
  intro n
  induction n using Nat.strongRecOn with
  | _ n ih =>
    intro h w hn hl hi
    rcases least_or w with hd | ⟨x, hx⟩
    · exact ⟨_, .done hd⟩
    · cases hs : st x h w with
      | none => exact ⟨_, .bad hx hs⟩
      | some q =>
        obtain ⟨h', w'⟩ := q
        obtain ⟨h1, h2, h3⟩ := g x h w h' w' hl hi hx.1 hs
        obtain ⟨r, hr⟩ := ih _ (hn ▸ h3) h' w' rfl (h2.trans hl) h1
        exact ⟨r, .go hx hs hr⟩
theorem step_fall {A W : Int → Prop} {len : Nat} {v y : Int} {ns h h' : List Int} {w w' : List Bool} {x : Nat} (hl : h.length = len) (hi : HInv A W h w) (hA : A v) (hW : W v) (hy : h[x]? = some y) (hw : w[x]? = some true) (hns : ns.length ≤ 2)
    (hv : y < 0 → 0 ≤ v ∨ ns = [(x : Int) + 1])
    (hp : putN len v ns h (w.set x false) = some (h', w')) : HInv A W h' w' ∧ h'.length = h.length ∧ mz (len + 1) 0 h' w' < mz (len + 1) 0 h w := by
  obtain ⟨h1, h2, h3⟩ := putN_inv (len + 1) hA hW ns h _ h' w' (hi.drop x) hp
  have hx := (List.getElem?_eq_some_iff.1 hy).1
  have hm := mz_setw (N := len + 1) false hy hw
  refine ⟨h1, h2, ?_⟩
  have c1 : cw (len + 1) x y true = cw (len + 1) x y false + (if y < 0 then len + 1 - x else 3 * (len + 1)) := by unfold cw; simp
  have c3 : more (len + 1) ns ≤ 2 * (len + 1) := by
    match ns, hns with
    | [], _ => simp [more]
    | [a], _ => simp only [more]; omega
    | [a, b], _ => simp only [more]; omega
  by_cases c : y < 0
  · rw [if_pos c] at c1
    rcases hv c with h0 | h0
    · rw [if_neg (by omega)] at h3
      omega
    · subst h0
      have : more (len + 1) [(x : Int) + 1] = len + 1 - (x + 1) := by simp only [more]; omega
      rw [this] at h3
      split at h3 <;> omega
  · rw [if_neg c] at c1
    split at h3 <;> omega
abbrev A1 (x : Int) : Prop := -1 ≤ x ∧ x ≤ 8
abbrev W1 (x : Int) : Prop := 0 ≤ x ∧ x ≤ 8
abbrev A2 (x : Int) : Prop := (-1 ≤ x ∧ x ≤ 8) ∨ (-9223372036854775808 ≤ x ∧ x ≤ -9223372036854775788)
abbrev W2 (x : Int) : Prop := (0 ≤ x ∧ x ≤ 8) ∨ (-9223372036854775808 ≤ x ∧ x ≤ -9223372036854775788)
def Args64 (p : GProgram) : Prop := ∀ f ∈ p.funcs, -9223372036854775808 ≤ f.args ∧ f.args ≤ 9223372036854775807
theorem takes64 {p : GProgram} (h : Args64 p) (i : GI2) : -9223372036854775808 ≤ takesL p i ∧ takesL p i ≤ 9223372036854775807 := by
  unfold takesL
  split
  · omega
  split
  · omega
  split
  · split
    · split
      · rename_i f hf
        exact h f (List.mem_of_getElem? hf)
      · omega
    · omega
  split
  · omega
  split <;> omega
theorem puts_next {i : GI2} {x : Int} (h : 0 < putsL i) : nextL i x = [x + 1] := by
  unfold putsL at h
  unfold nextL
  split at h
  · rw [if_neg (by omega), if_neg (by omega), if_neg (by omega)]
  · split at h
    · rw [if_neg (by omega), if_neg (by omega), if_neg (by omega)]
    · omega
theorem goodI (p : GProgram) (code : List GI2) (hp : Args64 p) : Good code.length A2 W2 (stepI p code) := by
  intro x h w h' w' hl hi hw hs
  unfold stepI at hs
  split at hs
  · rename_i i y hi' hy
    split at hs
    · cases hs
    split at hs
    · cases hs
    rename_i c1 c2
    have hW := hi.wt x y hy hw
    have hpu := putsL_range i
    have e1 : 0 ≤ IntKind.i64.wrap (y - takesL p i) := by omega
    have e2 : IntKind.i64.wrap (y - takesL p i) ≤ 9223372036854775807 := by rw [wrap64_eq]; split <;> omega
    generalize IntKind.i64.wrap (y - takesL p i) = q at *
    have hv : W2 (IntKind.i64.wrap (q + putsL i)) ∧ (0 ≤ IntKind.i64.wrap (q + putsL i) ∨ 0 < putsL i) := by
      by_cases c : q + putsL i ≤ 9223372036854775807
      · rw [wrap_id (by omega) c] at c2 ⊢
        exact ⟨.inl ⟨by omega, by omega⟩, .inl (by omega)⟩
      · have : IntKind.i64.wrap (q + putsL i) = q + putsL i - 18446744073709551616 := by rw [wrap64_eq]; split <;> omega
        rw [this]
        exact ⟨.inr ⟨by omega, by omega⟩, .inr (by omega)⟩
    refine step_fall hl hi ?_ hv.1 hy hw (nextL_length _ _) (fun hh => ?_) hs
    · have := hv.1; rcases this with h1 | h1
      · exact .inl ⟨by omega, h1.2⟩
      · exact .inr h1
    · rcases hv.2 with h1 | h1
      · exact .inl h1
      · exact .inr (puts_next h1)
  · cases hs
theorem goodS (p : GProgram) (code : List GI2) (hp : Args64 p) : Good code.length A2 W2 (stepS p code) := by
  intro x h w h' w' hl hi hw hs
  unfold stepS at hs
  split at hs
  · rename_i i y hi' hy
    split at hs
    · cases hs
    split at hs
    · cases hs
    rename_i c1 c2
    have hW := hi.wt x y hy hw
    have hpu := putsL_range i
    have ht := takes64 hp i
    have hv : W2 (IntKind.i64.wrap (IntKind.i64.wrap (y - takesL p i) + putsL i)) ∧ (y < 0 → 0 ≤ IntKind.i64.wrap (IntKind.i64.wrap (y - takesL p i) + putsL i)) := by
      by_cases c : y - takesL p i ≤ 9223372036854775807
      · rw [wrap_id (x := y - takesL p i) (by omega) c] at c2 ⊢
        by_cases d : y - takesL p i + putsL i ≤ 9223372036854775807
        · rw [wrap_id (by omega) d] at c2 ⊢
          exact ⟨.inl ⟨by omega, by omega⟩, fun _ => by omega⟩
        · have : IntKind.i64.wrap (y - takesL p i + putsL i) = y - takesL p i + putsL i - 18446744073709551616 := by rw [wrap64_eq]; split <;> omega
          rw [this]
          exact ⟨.inr ⟨by omega, by omega⟩, fun _ => by omega⟩
      · have : IntKind.i64.wrap (y - takesL p i) = y - takesL p i - 18446744073709551616 := by rw [wrap64_eq]; split <;> omega
        rw [this, wrap_id (by omega) (by omega)]
        exact ⟨.inr ⟨by omega, by omega⟩, fun _ => by omega⟩
    refine step_fall hl hi ?_ hv.1 hy hw (nextL_length _ _) (fun hh => .inl (hv.2 hh)) hs
    have := hv.1; rcases this with h1 | h1
    · exact .inl ⟨by omega, h1.2⟩
    · exact .inr h1
  · cases hs
def Normal (p : GProgram) : Prop := ∀ f ∈ p.funcs, 0 ≤ f.args ∧ f.args ≤ 4
theorem takesN {p : GProgram} (h : Normal p) (i : GI2) : 0 ≤ takesL p i ∧ takesL p i ≤ 4 := by
  unfold takesL
  split
  · omega
  split
  · omega
  split
  · split
    · split
      · rename_i f hf
        exact h f (List.mem_of_getElem? hf)
      · omega
    · omega
  split
  · omega
  split <;> omega
def stepN (p : GProgram) (code : List GI2) : StepF := fun x h w => match code[x]?, h[x]? with
  | some i, some y => if y < takesL p i then none else if 8 < y - takesL p i + putsL i then none
      else putN code.length (y - takesL p i + putsL i) (nextL i x) h (w.set x false)
  | _, _ => none
theorem stepI_N {p : GProgram} (hp : Normal p) {code : List GI2} {x : Nat} {h : List Int} {w : List Bool} (hi : HInv A1 W1 h w) (hw : w[x]? = some true) : stepI p code x h w = stepN p code x h w := by
  unfold stepI stepN
  cases hi' : code[x]? with
  | none => rfl
  | some i =>
    cases hy : h[x]? with
    | none => rfl
    | some y =>
      have hW := hi.wt x y hy hw
      have ht := takesN hp i
      have hpu := putsL_range i
      simp only []
      rw [wrap_id (x := y - takesL p i) (by omega) (by omega), wrap_id (by omega) (by omega)]
      by_cases c : y < takesL p i
      · rw [if_pos (by omega), if_pos c]
      · rw [if_neg (by omega), if_neg c]
theorem stepS_N {p : GProgram} (hp : Normal p) {code : List GI2} {x : Nat} {h : List Int} {w : List Bool} (hi : HInv A1 W1 h w) (hw : w[x]? = some true) : stepS p code x h w = stepN p code x h w := by
  unfold stepS stepN
  cases hi' : code[x]? with
  | none => rfl
  | some i =>
    cases hy : h[x]? with
    | none => rfl
    | some y =>
      have hW := hi.wt x y hy hw
      have ht := takesN hp i
      have hpu := putsL_range i
      simp only []
      rw [wrap_id (x := y - takesL p i) (by omega) (by omega), wrap_id (by omega) (by omega)]
theorem stepN_inv {p : GProgram} (hp : Normal p) {code : List GI2} {x : Nat} {h h' : List Int} {w w' : List Bool} (hi : HInv A1 W1 h w) (hw : w[x]? = some true) (hs : stepN p code x h w = some (h', w')) : HInv A1 W1 h' w' ∧ h'.length = h.length := by
  unfold stepN at hs
  split at hs
  · rename_i i y hi' hy
    split at hs
    · cases hs
    split at hs
    · cases hs
    have hpu := putsL_range i
    obtain ⟨h1, h2, -⟩ := putN_inv 0 (A := A1) (W := W1) ⟨by omega, by omega⟩ ⟨by omega, by omega⟩ _ _ _ _ _ (hi.drop x) hs
    exact ⟨h1, h2⟩
  · cases hs
theorem run_N {p : GProgram} (hp : Normal p) {code : List GI2} {st : StepF} (he : ∀ (x : Nat) (h : List Int) (w : List Bool), HInv A1 W1 h w → w[x]? = some true → st x h w = stepN p code x h w) {h : List Int} {w : List Bool} {r : Option (List Int)}
    (hr : HRun st h w r) (hi : HInv A1 W1 h w) : HRun (stepN p code) h w r := by
  induction hr with
  | done h1 => exact .done h1
  | bad h1 h2 => exact .bad h1 ((he _ _ _ hi h1.1).symm.trans h2)
  | go h1 h2 _ ih =>
    have h3 := (he _ _ _ hi h1.1).symm.trans h2
    exact .go h1 h3 (ih (stepN_inv hp hi h1.1 h3).1)
theorem least_same {w : List Bool} {x y : Nat} (h1 : Least w x) (h2 : Least w y) : x = y := by
  rcases Nat.lt_trichotomy x y with h | h | h
  · exact absurd h1.1 (h2.2 x h)
  · exact h
  · exact absurd h2.1 (h1.2 y h)
theorem run_same {st : StepF} {h : List Int} {w : List Bool} {r s : Option (List Int)} (hr : HRun st h w r) (hs : HRun st h w s) : r = s := by
  induction hr generalizing s with
  | done h1 =>
    cases hs with
    | done => rfl
    | bad h2 _ => exact absurd h2.1 (h1 _)
    | go h2 _ _ => exact absurd h2.1 (h1 _)
  | bad h1 h2 =>
    cases hs with
    | done h3 => exact absurd h1.1 (h3 _)
    | bad => rfl
    | go h3 h4 _ =>
      rw [least_same h1 h3, h4] at h2; cases h2
  | go h1 h2 _ ih =>
    cases hs with
    | done h3 => exact absurd h1.1 (h3 _)
    | bad h3 h4 => rw [least_same h1 h3, h4] at h2; cases h2
    | go h3 h4 h5 =>
      rw [least_same h1 h3, h4] at h2
      cases h2
      exact ih h5
theorem Ev.idxI {α β : Type} {l : List α} {i : Int} {m : α} {g : Nat → α → Option β} {v : β} (h0 : 0 ≤ i) (h : l[i.toNat]? = some m) (h2 : Ev (fun k => g k m) v) : Ev (fun k => (L.idx l i).bind (g k)) v := by
  refine Ev.bind (a := m) (Ev.const ?_) h2
  rw [idx_of h0, h]
theorem at_mid {α : Type} (pre : List α) (n : α) (ns : List α) : (pre ++ n :: ns)[pre.length]? = some n := by simp
theorem specLeast_l (w : List Bool) (hn : w.length < 1099511627776) : ∀ (d i : Nat), w.length - i = d → i ≤ w.length → (∀ j : Nat, j < i → w[j]? ≠ some true) →
    (∃ x, Least w x ∧ Ev (fun k => spec_l04Least.l1 k w (i : Int)) (.inl (x : Int))) ∨ ((∀ j : Nat, w[j]? ≠ some true) ∧ Ev (fun k => spec_l04Least.l1 k w (i : Int)) (.inr ())) := by
  intro d
  induction d with
  | zero =>
    intro i hd hi hj
    right
    refine ⟨fun j => ?_, ?_⟩
    · rcases Nat.lt_or_ge j i with h | h
      · exact hj j h
      · rw [List.getElem?_eq_none (by omega)]; simp
    · refine Ev.succ ?_
      simp only [spec_l04Least.l1]
      exact Ev.cf (df (by omega)) Ev.pure
  | succ d ih =>
    intro i hd hi hj
    obtain ⟨b, hb⟩ := list_get (show i < w.length by omega)
    cases b with
    | true =>
      left
      refine ⟨i, ⟨hb, hj⟩, ?_⟩
      refine Ev.succ ?_
      simp only [spec_l04Least.l1]
      exact Ev.ct (dt (by omega)) (Ev.idx hb (Ev.ct rfl Ev.pure))
    | false =>
      have step : ∀ o, Ev (fun k => spec_l04Least.l1 k w ((i + 1 : Nat) : Int)) o → Ev (fun k => spec_l04Least.l1 k w (i : Int)) o := by
        intro o ho
        refine Ev.succ ?_
        simp only [spec_l04Least.l1]
        refine Ev.ct (dt (by omega)) (Ev.idx hb (Ev.cf rfl ?_))
        rw [wrap_nat (by omega)]
        exact ho
      rcases ih (i + 1) (by omega) (by omega) (fun j hji => by
        by_cases e : j = i
        · subst e; rw [hb]; simp
        · exact hj j (by omega)) with ⟨x, h1, h2⟩ | ⟨h1, h2⟩
      · exact .inl ⟨x, h1, step _ h2⟩
      · exact .inr ⟨h1, step _ h2⟩
theorem specLeast_some {w : List Bool} (hn : w.length < 1099511627776) {x : Nat} (h : Least w x) : Ev (fun k => spec_l04Least k w) (x : Int) := by
  rcases specLeast_l w hn _ 0 rfl (by omega) (fun j hj => by omega) with ⟨y, h1, h2⟩ | ⟨h1, h2⟩
  · rw [least_same h h1]
    exact Ev.bind h2 Ev.pure
  · exact absurd h.1 (h1 x)
theorem specLeast_none {w : List Bool} (hn : w.length < 1099511627776) (h : ∀ j : Nat, w[j]? ≠ some true) : Ev (fun k => spec_l04Least k w) (-1) := by
  rcases specLeast_l w hn _ 0 rfl (by omega) (fun j hj => by omega) with ⟨y, h1, h2⟩ | ⟨h1, h2⟩
  · exact absurd h1.1 (h y)
  · exact Ev.bind h2 Ev.pure
theorem specPut (fs : List GFunc) (z : GI3) (f : Int) (code : List GI2) (bad : GI3) (v : Int) (hbad : bad.c ≠ 0) (hlen : code.length < 1099511627776) :
    ∀ (ns pre : List Int) (h : List Int) (w : List Bool), (∀ n ∈ ns, 0 ≤ n) → h.length = code.length → w.length = code.length → (pre ++ ns).length < 1099511627776 →
    ∃ o, Ev (fun k => spec_l04Heights.l6 k fs z h w bad (pre ++ ns) f code v (pre.length : Int)) o ∧
      match putN code.length v ns h w with
      | some (h', w') => o = .inr (fs, z, h', w', f, code)
      | none => ∃ hh e, o = .inl (hh, e) ∧ e.c ≠ 0
  | [], pre, h, w, hns, hh, hw, hp => by
    refine ⟨.inr (fs, z, h, w, f, code), ?_, rfl⟩
    refine Ev.succ ?_
    simp only [spec_l04Heights.l6, List.append_nil]
    exact Ev.cf (df (by omega)) Ev.pure
  | n :: ns, pre, h, w, hns, hh, hw, hp => by
    have hn0 := hns n (by simp)
    have hmid := at_mid pre n ns
    have hl : (pre.length : Int) < ((pre ++ n :: ns).length : Int) := by simp; omega
    by_cases c : (code.length : Int) ≤ n
    · refine ⟨.inl (h, ⟨bad.a, bad.b, 6⟩), ?_, ?_⟩
      · refine Ev.succ ?_
        simp only [spec_l04Heights.l6]
        exact Ev.ct (dt hl) (Ev.idx hmid (Ev.ct (dt c) Ev.pure))
      · simp only [putN, if_pos c]
        exact ⟨_, _, rfl, by simp⟩
    · obtain ⟨x, hx⟩ := list_get (show n.toNat < h.length by omega)
      obtain ⟨b, hb⟩ := list_get (show n.toNat < w.length by omega)
      have ha7 : Ev (fun k => spec_l04Heights.a7 k fs z h w bad (pre ++ n :: ns) f code v (pre.length : Int)) (if 0 ≤ x ∧ x ≠ v then .inl (h, bad) else .inr (fs, z, h, w, bad, pre ++ n :: ns, f, code, v, (pre.length : Int))) := by
        unfold spec_l04Heights.a7
        refine Ev.idx hmid (Ev.idxI hn0 hx ?_)
        by_cases c1 : 0 ≤ x
        · refine Ev.ct (dt c1) ?_
          by_cases c2 : x = v
          · rw [if_neg (by omega)]
            exact Ev.cf (by simp [c2]) Ev.pure
          · rw [if_pos ⟨c1, c2⟩]
            exact Ev.ct (by simp [c2]) Ev.pure
        · rw [if_neg (by omega)]
          exact Ev.cf (df c1) Ev.pure
      have pre' : pre ++ n :: ns = (pre ++ [n]) ++ ns := by simp
      have plen : ((pre.length + 1 : Nat) : Int) = ((pre ++ [n]).length : Int) := by simp
      by_cases c1 : 0 ≤ x
      · by_cases c2 : x = v
        · obtain ⟨o, ho, hm⟩ := specPut fs z f code bad v hbad hlen ns (pre ++ [n]) h w (fun m hm => hns m (by simp [hm])) hh hw (by rw [← pre']; exact hp)
          refine ⟨o, ?_, ?_⟩
          · refine Ev.succ ?_
            simp only [spec_l04Heights.l6]
            refine Ev.ct (dt hl) (Ev.idx hmid (Ev.cf (df (by omega)) (Ev.bind ha7 ?_)))
            rw [if_neg (by omega)]
            simp only [Sum.elim_inr]
            refine Ev.idx hmid (Ev.idxI hn0 hx (Ev.cf (df (by omega)) ?_))
            rw [wrap_nat (by simp at hp; omega), plen, pre']
            exact ho
          · simp only [putN, if_neg c, hx, if_pos c1, if_pos c2]
            exact hm
        · refine ⟨.inl (h, bad), ?_, ?_⟩
          · refine Ev.succ ?_
            simp only [spec_l04Heights.l6]
            refine Ev.ct (dt hl) (Ev.idx hmid (Ev.cf (df (by omega)) (Ev.bind ha7 ?_)))
            rw [if_pos ⟨c1, c2⟩]
            exact Ev.pure
          · simp only [putN, if_neg c, hx, if_pos c1, if_neg c2]
            exact ⟨_, _, rfl, hbad⟩
      · obtain ⟨o, ho, hm⟩ := specPut fs z f code bad v hbad hlen ns (pre ++ [n]) (h.set n.toNat v) (w.set n.toNat true) (fun m hm => hns m (by simp [hm])) (by simpa using hh) (by simpa using hw) (by rw [← pre']; exact hp)
        refine ⟨o, ?_, ?_⟩
        · refine Ev.succ ?_
          simp only [spec_l04Heights.l6]
          refine Ev.ct (dt hl) (Ev.idx hmid (Ev.cf (df (by omega)) (Ev.bind ha7 ?_)))
          rw [if_neg (by omega)]
          simp only [Sum.elim_inr]
          refine Ev.idx hmid (Ev.idxI hn0 hx (Ev.ct (dt (by omega)) (Ev.idxI hn0 hb ?_)))
          rw [wrap_nat (by simp at hp; omega), plen, pre']
          exact ho
        · simp only [putN, if_neg c, hx, if_neg c1]
          exact hm
def JumpsOk (code : List GI2) : Prop := ∀ i ∈ code, (i.a = 30 ∨ i.a = 31) → 0 ≤ i.b ∧ i.b < (code.length : Int)
theorem nextL_pos {code : List GI2} (hj : JumpsOk code) {i : GI2} (hi : i ∈ code) (x : Nat) : ∀ n ∈ nextL i (x : Int), 0 ≤ n := by
  intro n hn
  unfold nextL at hn
  split at hn
  · cases hn
  split at hn
  · simp at hn; subst hn; exact (hj i hi (.inl ‹_›)).1
  split at hn
  · simp at hn
    rcases hn with rfl | rfl
    · omega
    · exact (hj i hi (.inr ‹_›)).1
  · simp at hn; omega
def SpecRes (code : List GI2) (o : List Int × GI3) : Option (List Int) → Prop
  | some hf => o = (hf, ⟨0, 0, 0⟩) ∧ hf.length = code.length
  | none => o.2.c ≠ 0
theorem specRun (p : GProgram) (f : Int) (code : List GI2) (z : GI3) (hj : JumpsOk code) (hlen : code.length < 1099511627) {h : List Int} {w : List Bool} {r : Option (List Int)} (hr : HRun (stepS p code) h w r) :
    h.length = code.length → w.length = code.length → ∃ o, Ev (fun k => spec_l04Heights.l2 k p.funcs z h w f code) o ∧ SpecRes code o r := by
  -- what a round does
  have round : ∀ (h : List Int) (w : List Bool) (x : Nat), h.length = code.length → w.length = code.length → Least w x →
      match stepS p code x h w with
      | none => ∃ o, Ev (fun k => spec_l04Heights.l2 k p.funcs z h w f code) o ∧ o.2.c ≠ 0
      | some (h', w') => ∀ o, Ev (fun k => spec_l04Heights.l2 k p.funcs z h' w' f code) o → Ev (fun k => spec_l04Heights.l2 k p.funcs z h w f code) o := by
    intro h w x hh hw hx
    have hxw := (List.getElem?_eq_some_iff.1 hx.1).1
    obtain ⟨i, hi⟩ := list_get (show x < code.length by omega)
    obtain ⟨y, hy⟩ := list_get (show x < h.length by omega)
    have him := List.mem_of_getElem? hi
    have hp : (⟨p.funcs⟩ : GProgram) = p := rfl
    -- the part ahead of the places
    have ha3 : Ev (fun k => spec_l04Heights.a3 k p.funcs z h (w.set x false) i ⟨f, x, 5⟩ f code (x : Int) (takesL p i) (IntKind.i64.wrap (IntKind.i64.wrap (y - takesL p i) + putsL i)))
        (if y < takesL p i ∨ 8 < IntKind.i64.wrap (IntKind.i64.wrap (y - takesL p i) + putsL i) then .inl (h, ⟨f, x, 5⟩) else .inr (p.funcs, z, h, w.set x false, i, ⟨f, x, 5⟩, f, code, (x : Int), IntKind.i64.wrap (IntKind.i64.wrap (y - takesL p i) + putsL i))) := by
      unfold spec_l04Heights.a3
      refine Ev.idx hy ?_
      by_cases c1 : y < takesL p i
      · rw [if_pos (.inl c1)]; exact Ev.ct (dt c1) Ev.pure
      · refine Ev.cf (df c1) ?_
        by_cases c2 : 8 < IntKind.i64.wrap (IntKind.i64.wrap (y - takesL p i) + putsL i)
        · rw [if_pos (.inr c2)]; exact Ev.ct (dt c2) Ev.pure
        · rw [if_neg (by omega)]; exact Ev.cf (df c2) Ev.pure
    unfold stepS
    simp only [hi, hy]
    by_cases c1 : y < takesL p i
    · rw [if_pos c1]
      refine ⟨(h, ⟨f, x, 5⟩), ?_, by simp⟩
      refine Ev.succ ?_
      simp only [spec_l04Heights.l2, specTakes, specPuts, Option.bind_some, hp]
      refine Ev.bind (specLeast_some (by omega) hx) (Ev.cf (df (by omega)) (Ev.idx hx.1 (Ev.idx hi ?_)))
      simp only [specTakes, specPuts, Option.bind_some, Int.toNat_natCast]
      refine Ev.idx hy (Ev.bind ha3 ?_)
      rw [if_pos (.inl c1)]
      exact Ev.pure
    · rw [if_neg c1]
      by_cases c2 : 8 < IntKind.i64.wrap (IntKind.i64.wrap (y - takesL p i) + putsL i)
      · rw [if_pos c2]
        refine ⟨(h, ⟨f, x, 5⟩), ?_, by simp⟩
        refine Ev.succ ?_
        simp only [spec_l04Heights.l2]
        refine Ev.bind (specLeast_some (by omega) hx) (Ev.cf (df (by omega)) (Ev.idx hx.1 (Ev.idx hi ?_)))
        simp only [specTakes, specPuts, Option.bind_some, Int.toNat_natCast]
        refine Ev.idx hy (Ev.bind ha3 ?_)
        rw [if_pos (.inr c2)]
        exact Ev.pure
      · rw [if_neg c2]
        generalize hv : IntKind.i64.wrap (IntKind.i64.wrap (y - takesL p i) + putsL i) = v at *
        have ha4 : Ev (fun k => spec_l04Heights.a4 k p.funcs z h (w.set x false) i ⟨f, x, 5⟩ [] f code (x : Int) v) (p.funcs, z, h, w.set x false, i, ⟨f, x, 5⟩, f, code, v, if i.a ≠ 30 ∧ i.a ≠ 33 then [(x : Int) + 1] else []) := by
          unfold spec_l04Heights.a4
          by_cases d1 : i.a = 30
          · rw [if_neg (by omega)]; exact Ev.cf (by simp [d1]) Ev.pure
          · refine Ev.ct (by simp [d1]) ?_
            by_cases d2 : i.a = 33
            · rw [if_neg (by omega)]; exact Ev.cf (by simp [d2]) Ev.pure
            · rw [if_pos ⟨d1, d2⟩]
              refine Ev.ct (by simp [d2]) (Ev.gd ⟨by simp, by simp⟩ ?_)
              rw [wrap_nat (by omega)]
              exact Ev.pure
        have ha5 : Ev (fun k => spec_l04Heights.a5 k p.funcs z h (w.set x false) i ⟨f, x, 5⟩ (if i.a ≠ 30 ∧ i.a ≠ 33 then [(x : Int) + 1] else []) f code v) (p.funcs, z, h, w.set x false, ⟨f, x, 5⟩, f, code, v, nextL i x) := by
          unfold spec_l04Heights.a5 nextL
          by_cases d1 : i.a = 30
          · refine Ev.ct (by simp [d1]) ?_
            simp only [d1]
            exact Ev.gd ⟨by simp, by simp⟩ Ev.pure
          · refine Ev.cf (by simp [d1]) ?_
            by_cases d2 : i.a = 31
            · refine Ev.ct (by simp [d2]) ?_
              simp only [d2]
              exact Ev.gd ⟨by simp, by simp⟩ Ev.pure
            · refine Ev.cf (by simp [d2]) ?_
              by_cases d3 : i.a = 33
              · simp only [d3]; exact Ev.pure
              · rw [if_pos ⟨d1, d3⟩, if_neg d3, if_neg d1, if_neg d2]; exact Ev.pure
        obtain ⟨o, ho, hm⟩ := specPut p.funcs z f code ⟨f, x, 5⟩ v (by simp) (by omega) (nextL i x) [] h (w.set x false) (nextL_pos hj him x) hh (by simpa using hw) (by have := nextL_length i x; simp; omega)
        have go : ∀ o', (Ev (fun k => (Sum.elim (fun o6l => some (o6l.1, o6l.2)) (fun o6r => spec_l04Heights.l2 k o6r.1 o6r.2.1 o6r.2.2.1 o6r.2.2.2.1 o6r.2.2.2.2.1 o6r.2.2.2.2.2) o : Option (List Int × GI3))) o') → Ev (fun k => spec_l04Heights.l2 k p.funcs z h w f code) o' := by
          intro o' h'
          refine Ev.succ ?_
          simp only [spec_l04Heights.l2]
          refine Ev.bind (specLeast_some (by omega) hx) (Ev.cf (df (by omega)) (Ev.idx hx.1 (Ev.idx hi ?_)))
          simp only [specTakes, specPuts, Option.bind_some, Int.toNat_natCast]
          refine Ev.idx hy ?_
          rw [hv]
          refine Ev.bind ha3 ?_
          rw [if_neg (by omega)]
          simp only [Sum.elim_inr]
          exact Ev.bind ha4 (Ev.bind ha5 (Ev.bind ho h'))
        cases hput : putN code.length v (nextL i x) h (w.set x false) with
        | none =>
          rw [hput] at hm
          obtain ⟨hh', e, rfl, he⟩ := hm
          exact ⟨(hh', e), go _ Ev.pure, he⟩
        | some q =>
          obtain ⟨h', w'⟩ := q
          rw [hput] at hm
          subst hm
          exact fun o ho => go o ho
  induction hr with
  | done h1 =>
    intro hh hw
    refine ⟨_, ?_, rfl, hh⟩
    refine Ev.succ ?_
    simp only [spec_l04Heights.l2]
    exact Ev.bind (specLeast_none (by omega) h1) (Ev.ct (dt (by omega)) Ev.pure)
  | bad h1 h2 =>
    intro hh hw
    have := round _ _ _ hh hw h1
    rw [h2] at this
    exact this
  | @go h h' w w' x r h1 h2 h3 ih =>
    intro hh hw
    have hr := round _ _ _ hh hw h1
    rw [h2] at hr
    have hl : h'.length = code.length ∧ w'.length = code.length := by
      unfold stepS at h2
      split at h2
      · split at h2
        · cases h2
        split at h2
        · cases h2
        obtain ⟨i1, i2, -⟩ := putN_inv 0 (A := fun _ => True) (W := fun _ => True) trivial trivial _ _ _ _ _ (show HInv (fun _ => True) (fun _ => True) h (w.set x false) from ⟨by simp; omega, fun _ _ _ => trivial, fun _ _ _ _ => trivial⟩) h2
        exact ⟨by omega, by have := i1.len; omega⟩
      · cases h2
    obtain ⟨o, ho, hm⟩ := ih hl.1 hl.2
    exact ⟨o, hr o ho, hm⟩
def PutRes (fs : List GFunc) (code : List GI2) (L : Nat) (w : List Bool) (o : (List Int × Int × Int) ⊕ (List GFunc × List Int × List Bool × List GI2 × Int)) : Option (List Int × List Bool) → Prop
  | some (h', w') => ∃ L' : Nat, o = .inr (fs, h', w', code, (L' : Int)) ∧ L' ≤ L ∧ ((∀ j : Nat, j < L → w[j]? ≠ some true) → ∀ j : Nat, j < L' → w'[j]? ≠ some true)
  | none => ∃ e, o = .inl e ∧ e.2.2 ≠ 0
theorem implPut (fs : List GFunc) (code : List GI2) (i : GI2) (x : Int) (left v : Int) (hv : IntKind.i64.wrap (left + putsL i) = v) (hlen : code.length < 1099511627776) :
    ∀ (ns pre : List Int) (h : List Int) (w : List Bool) (L : Nat), (∀ n ∈ ns, 0 ≤ n ∧ n ≤ (code.length : Int)) → h.length = code.length → w.length = code.length → (pre ++ ns).length < 1099511627776 →
    ∃ o, Ev (fun k => impl_heightsOf.l4 k fs h w i (pre ++ ns) code x left (L : Int) ((pre ++ ns).length : Int) (pre.length : Int)) o ∧ PutRes fs code L w o (putN code.length v ns h w)
  | [], pre, h, w, L, hns, hh, hw, hp => by
    refine ⟨.inr (fs, h, w, code, (L : Int)), ?_, L, rfl, Nat.le_refl _, fun g => g⟩
    refine Ev.succ ?_
    simp only [impl_heightsOf.l4, List.append_nil]
    exact Ev.cf (df (by omega)) Ev.pure
  | n :: ns, pre, h, w, L, hns, hh, hw, hp => by
    obtain ⟨hn0, hn1⟩ := hns n (by simp)
    have hmid := at_mid pre n ns
    have hl : (pre.length : Int) < ((pre ++ n :: ns).length : Int) := by simp; omega
    by_cases c : (code.length : Int) ≤ n
    · refine ⟨.inl (h, x, 6), ?_, ?_⟩
      · refine Ev.succ ?_
        simp only [impl_heightsOf.l4]
        exact Ev.ct (dt hl) (Ev.idx hmid (Ev.ct (by simp; omega) Ev.pure))
      · simp only [putN, if_pos c]
        exact ⟨_, rfl, by simp⟩
    · obtain ⟨y, hy⟩ := list_get (show n.toNat < h.length by omega)
      obtain ⟨b, hb⟩ := list_get (show n.toNat < w.length by omega)
      have ha5 : Ev (fun k => impl_heightsOf.a5 k fs h w i (pre ++ n :: ns) code x left (L : Int) n ((pre ++ n :: ns).length : Int) (pre.length : Int))
          (if 0 ≤ y ∧ y ≠ v then .inl (h, x, 5) else .inr (fs, h, w, i, pre ++ n :: ns, code, x, left, (L : Int), n, ((pre ++ n :: ns).length : Int), (pre.length : Int))) := by
        unfold impl_heightsOf.a5
        refine Ev.idxI hn0 hy ?_
        by_cases c1 : 0 ≤ y
        · refine Ev.ct (dt c1) (Ev.bind (Ev.const (implPuts i)) ?_)
          rw [hv]
          by_cases c2 : y = v
          · rw [if_neg (by omega)]
            exact Ev.cf (by simp [c2]) Ev.pure
          · rw [if_pos ⟨c1, c2⟩]
            exact Ev.ct (by simp [c2]) Ev.pure
        · rw [if_neg (by omega)]
          exact Ev.cf (df c1) Ev.pure
      have pre' : pre ++ n :: ns = (pre ++ [n]) ++ ns := by simp
      have plen : ((pre.length + 1 : Nat) : Int) = ((pre ++ [n]).length : Int) := by simp
      by_cases c1 : 0 ≤ y
      · by_cases c2 : y = v
        · obtain ⟨o, ho, hm⟩ := implPut fs code i x left v hv hlen ns (pre ++ [n]) h w L (fun m hm => hns m (by simp [hm])) hh hw (by rw [← pre']; exact hp)
          refine ⟨o, ?_, ?_⟩
          · refine Ev.succ ?_
            simp only [impl_heightsOf.l4]
            refine Ev.ct (dt hl) (Ev.idx hmid (Ev.cf (by simp; omega) (Ev.bind ha5 ?_)))
            rw [if_neg (by omega)]
            simp only [Sum.elim_inr]
            refine Ev.idxI hn0 hy (Ev.cf (df (by omega)) ?_)
            rw [wrap_nat (by simp at hp; omega), plen, pre']
            exact ho
          · simp only [putN, if_neg c, hy, if_pos c1, if_pos c2]
            exact hm
        · refine ⟨.inl (h, x, 5), ?_, ?_⟩
          · refine Ev.succ ?_
            simp only [impl_heightsOf.l4]
            refine Ev.ct (dt hl) (Ev.idx hmid (Ev.cf (by simp; omega) (Ev.bind ha5 ?_)))
            rw [if_pos ⟨c1, c2⟩]
            exact Ev.pure
          · simp only [putN, if_neg c, hy, if_pos c1, if_neg c2]
            exact ⟨_, rfl, by simp⟩
      · obtain ⟨o, ho, hm⟩ := implPut fs code i x left v hv hlen ns (pre ++ [n]) (h.set n.toNat v) (w.set n.toNat true) (min n.toNat L) (fun m hm => hns m (by simp [hm])) (by simpa using hh) (by simpa using hw) (by rw [← pre']; exact hp)
        refine ⟨o, ?_, ?_⟩
        · refine Ev.succ ?_
          simp only [impl_heightsOf.l4]
          refine Ev.ct (dt hl) (Ev.idx hmid (Ev.cf (by simp; omega) (Ev.bind ha5 ?_)))
          rw [if_neg (by omega)]
          simp only [Sum.elim_inr]
          refine Ev.idxI hn0 hy (Ev.ct (dt (by omega)) (Ev.bind (Ev.const (implPuts i)) (Ev.idxI hn0 hb ?_)))
          rw [hv, wrap_nat (by simp at hp; omega), plen, pre']
          have : (if decide (n < (L : Int)) = true then n else (L : Int)) = ((min n.toNat L : Nat) : Int) := by
            by_cases d : n < (L : Int)
            · rw [if_pos (by simpa using d)]; omega
            · rw [if_neg (by simpa using d)]; omega
          rw [this]
          exact ho
        · simp only [putN, if_neg c, hy, if_neg c1]
          revert hm
          cases putN code.length v ns (h.set n.toNat v) (w.set n.toNat true) with
          | none => exact fun hm => hm
          | some q =>
            rintro ⟨L', h1, h2, h3⟩
            refine ⟨L', h1, by omega, fun g => h3 fun j hj => ?_⟩
            rw [List.getElem?_set_ne (by omega)]
            exact g j (by omega)
def ImplRes (code : List GI2) (o : (List Int × Int × Int) ⊕ List Int) : Option (List Int) → Prop
  | some hf => o = .inr hf ∧ hf.length = code.length
  | none => ∃ e, o = .inl e ∧ e.2.2 ≠ 0
theorem implSkip (p : GProgram) (code : List GI2) (hlen : code.length < 1099511627) (h : List Int) (w : List Bool) (hw : w.length = code.length) (o : (List Int × Int × Int) ⊕ List Int) : ∀ (d x y : Nat), y - x = d → x ≤ y → y ≤ code.length → (∀ j : Nat, x ≤ j → j < y → w[j]? ≠ some true) →
    Ev (fun k => impl_heightsOf.l2 k p.funcs h w code (y : Int)) o → Ev (fun k => impl_heightsOf.l2 k p.funcs h w code (x : Int)) o := by
  intro d
  induction d with
  | zero =>
    intro x y hd hxy hy hj ho
    have : x = y := by omega
    subst this
    exact ho
  | succ d ih =>
    intro x y hd hxy hy hj ho
    have h1 := ih (x + 1) y (by omega) (by omega) hy (fun j h1 h2 => hj j (by omega) h2) ho
    obtain ⟨b, hb⟩ := list_get (show x < w.length by omega)
    have : b = false := by
      have := hj x (Nat.le_refl _) (by omega)
      rw [hb] at this
      cases b
      · rfl
      · exact absurd rfl this
    subst this
    refine Ev.succ ?_
    simp only [impl_heightsOf.l2]
    refine Ev.ct (dt (by omega)) (Ev.idx hb (Ev.ct rfl ?_))
    rw [wrap_nat (by omega)]
    exact h1
theorem nextL_in {code : List GI2} (hj : JumpsOk code) {i : GI2} {x : Nat} (hi : code[x]? = some i) : ∀ n ∈ nextL i (x : Int), 0 ≤ n ∧ n ≤ (code.length : Int) := by
  intro n hn
  have hx := (List.getElem?_eq_some_iff.1 hi).1
  refine ⟨nextL_pos hj (List.mem_of_getElem? hi) x n hn, ?_⟩
  unfold nextL at hn
  split at hn
  · cases hn
  split at hn
  · simp at hn; subst hn; have := (hj i (List.mem_of_getElem? hi) (.inl ‹_›)).2; omega
  split at hn
  · simp at hn
    rcases hn with rfl | rfl
    · omega
    · have := (hj i (List.mem_of_getElem? hi) (.inr ‹_›)).2; omega
  · simp at hn; omega
theorem implRun (p : GProgram) (code : List GI2) (hj : JumpsOk code) (hlen : code.length < 1000000) {h : List Int} {w : List Bool} {r : Option (List Int)} (hr : HRun (stepI p code) h w r) :
    h.length = code.length → w.length = code.length → ∀ x : Nat, x ≤ code.length → (∀ j : Nat, j < x → w[j]? ≠ some true) → ∃ o, Ev (fun k => impl_heightsOf.l2 k p.funcs h w code (x : Int)) o ∧ ImplRes code o r := by
  have round : ∀ (h : List Int) (w : List Bool) (x : Nat), h.length = code.length → w.length = code.length → Least w x →
      match stepI p code x h w with
      | none => ∃ o, Ev (fun k => impl_heightsOf.l2 k p.funcs h w code (x : Int)) o ∧ ∃ e, o = .inl e ∧ e.2.2 ≠ 0
      | some (h', w') => ∃ L' : Nat, L' ≤ x ∧ (∀ j : Nat, j < L' → w'[j]? ≠ some true) ∧ ∀ o, Ev (fun k => impl_heightsOf.l2 k p.funcs h' w' code (L' : Int)) o → Ev (fun k => impl_heightsOf.l2 k p.funcs h w code (x : Int)) o := by
    intro h w x hh hw hx
    have hxw := (List.getElem?_eq_some_iff.1 hx.1).1
    obtain ⟨i, hi⟩ := list_get (show x < code.length by omega)
    obtain ⟨y, hy⟩ := list_get (show x < h.length by omega)
    generalize hq : IntKind.i64.wrap (y - takesL p i) = q
    generalize hv : IntKind.i64.wrap (q + putsL i) = v
    have ha3 : Ev (fun k => impl_heightsOf.a3 k p.funcs h (w.set x false) i code (x : Int) q) (if q < 0 ∨ 8 < v then .inl (h, (x : Int), 5) else .inr (p.funcs, h, w.set x false, i, code, (x : Int), q)) := by
      unfold impl_heightsOf.a3
      by_cases c1 : q < 0
      · rw [if_pos (.inl c1)]; exact Ev.ct (dt c1) Ev.pure
      · refine Ev.cf (df c1) (Ev.bind (Ev.const (implPuts i)) ?_)
        rw [hv]
        by_cases c2 : 8 < v
        · rw [if_pos (.inr c2)]; exact Ev.ct (dt c2) Ev.pure
        · rw [if_neg (by omega)]; exact Ev.cf (df c2) Ev.pure
    unfold stepI
    simp only [hi, hy, hq, hv]
    by_cases c : q < 0 ∨ 8 < v
    · have : (if q < 0 then none else if 8 < v then none else putN code.length v (nextL i x) h (w.set x false)) = none := by
        rcases c with c | c
        · rw [if_pos c]
        · by_cases d : q < 0
          · rw [if_pos d]
          · rw [if_neg d, if_pos c]
      rw [this]
      refine ⟨.inl (h, (x : Int), 5), ?_, _, rfl, by simp⟩
      refine Ev.succ ?_
      simp only [impl_heightsOf.l2]
      refine Ev.ct (dt (by omega)) (Ev.idx hx.1 (Ev.cf rfl (Ev.idx hi (Ev.idx hy ?_))))
      simp only [implTakes, Option.bind_some, Int.toNat_natCast, hq]
      refine Ev.bind ha3 ?_
      rw [if_pos c]
      exact Ev.pure
    · rw [if_neg (by omega), if_neg (by omega)]
      obtain ⟨o, ho, hm⟩ := implPut p.funcs code i (x : Int) q v hv (by omega) (nextL i x) [] h (w.set x false) x (nextL_in hj hi) hh (by simpa using hw) (by have := nextL_length i x; simp; omega)
      have go : ∀ o', Ev (fun k => (Sum.elim (fun o4l => some (.inl (o4l.1, o4l.2.1, o4l.2.2))) (fun o4r => impl_heightsOf.l2 k o4r.1 o4r.2.1 o4r.2.2.1 o4r.2.2.2.1 o4r.2.2.2.2) o : Option ((List Int × Int × Int) ⊕ List Int))) o' → Ev (fun k => impl_heightsOf.l2 k p.funcs h w code (x : Int)) o' := by
        intro o' h'
        refine Ev.succ ?_
        simp only [impl_heightsOf.l2]
        refine Ev.ct (dt (by omega)) (Ev.idx hx.1 (Ev.cf rfl (Ev.idx hi (Ev.idx hy ?_))))
        simp only [implTakes, Option.bind_some, Int.toNat_natCast, hq]
        refine Ev.bind ha3 ?_
        rw [if_neg c]
        simp only [Sum.elim_inr, implNext i x (by omega), Option.bind_some]
        exact Ev.bind ho h'
      cases hput : putN code.length v (nextL i x) h (w.set x false) with
      | none =>
        rw [hput] at hm
        obtain ⟨e, rfl, he⟩ := hm
        exact ⟨.inl e, go _ Ev.pure, e, rfl, he⟩
      | some z =>
        obtain ⟨h', w'⟩ := z
        rw [hput] at hm
        obtain ⟨L', rfl, h2, h3⟩ := hm
        refine ⟨L', h2, h3 fun j hj => ?_, fun o ho => go o ho⟩
        rw [List.getElem?_set_ne (by omega)]
        exact hx.2 j hj
  induction hr with
  | @done h w h1 =>
    intro hh hw x hx hj
    refine ⟨.inr h, implSkip p code (by omega) h w hw _ _ x code.length rfl hx (Nat.le_refl _) (fun j _ _ => h1 j) ?_, rfl, hh⟩
    refine Ev.succ ?_
    simp only [impl_heightsOf.l2]
    exact Ev.cf (df (by omega)) Ev.pure
  | @bad h w y h1 h2 =>
    intro hh hw x hx hj
    have hyw := (List.getElem?_eq_some_iff.1 h1.1).1
    have hxy : x ≤ y := by
      rcases Nat.lt_or_ge y x with hlt | hge
      · exact absurd h1.1 (hj y hlt)
      · exact hge
    have := round _ _ _ hh hw h1
    rw [h2] at this
    obtain ⟨o, ho, he⟩ := this
    exact ⟨o, implSkip p code (by omega) h w hw _ _ x y rfl hxy (by omega) (fun j _ hj2 => h1.2 j hj2) ho, he⟩
  | @go h h' w w' y r h1 h2 h3 ih =>
    intro hh hw x hx hj
    have hyw := (List.getElem?_eq_some_iff.1 h1.1).1
    have hxy : x ≤ y := by
      rcases Nat.lt_or_ge y x with hlt | hge
      · exact absurd h1.1 (hj y hlt)
      · exact hge
    have hr := round _ _ _ hh hw h1
    rw [h2] at hr
    obtain ⟨L', l1, l2, l3⟩ := hr
    have hl : h'.length = code.length ∧ w'.length = code.length := by
      unfold stepI at h2
      split at h2
      · split at h2
        · cases h2
        split at h2
        · cases h2
        obtain ⟨i1, i2, -⟩ := putN_inv 0 (A := fun _ => True) (W := fun _ => True) trivial trivial _ _ _ _ _ (show HInv (fun _ => True) (fun _ => True) h (w.set y false) from ⟨by simp; omega, fun _ _ _ => trivial, fun _ _ _ _ => trivial⟩) h2
        exact ⟨by omega, by have := i1.len; omega⟩
      · cases h2
    obtain ⟨o, ho, hm⟩ := ih hl.1 hl.2 L' (by omega) l2
    exact ⟨o, implSkip p code (by omega) h w hw _ _ x y rfl hxy (by omega) (fun j _ hj2 => h1.2 j hj2) (l3 o ho), hm⟩
end Go.Proofs.YtdlaplgofgklnaaDoor
namespace Go.Proofs.YtdlaplgofgklnaaDoor
open Go.Proofs Go.Proofs.YtdlaplgofgklnaaDoor.L
set_option linter.unusedVariables false
set_option linter.unusedSimpArgs false
set_option maxRecDepth 10000
def opKnown (a : Int) : Bool := decide ((1 ≤ a ∧ a ≤ 5) ∨ (10 ≤ a ∧ a ≤ 38))
def insOk (p : GProgram) (m : GFunc) (i : GI2) : Bool :=
  if i.a = 1 then true else if i.a = 2 ∨ i.a = 3 then decide (0 ≤ i.b ∧ i.b < m.locals) else if i.a = 30 ∨ i.a = 31 then decide (0 ≤ i.b ∧ i.b < (m.code.length : Int))
  else if i.a = 32 then decide (0 ≤ i.b ∧ i.b < (p.funcs.length : Int)) else (opKnown i.a && (i.b == 0))
theorem specOp (k : Nat) (a : Int) : ∃ t, spec_OpName k a = some t ∧ (t.toList == (⟨#[]⟩ : ByteArray).toList) = !opKnown a := by
  rcases op_cases a with (rfl | rfl | rfl | rfl | rfl | rfl | rfl | rfl | rfl | rfl | rfl | rfl | rfl | rfl | rfl | rfl | rfl | rfl | rfl | rfl | rfl | rfl | rfl | rfl | rfl | rfl | rfl | rfl | rfl | rfl | rfl | rfl | rfl | rfl | rfl | rfl | rfl | rfl | rfl) | h
  all_goals (try exact ⟨_, rfl, by decide +kernel⟩)
  refine ⟨⟨#[]⟩, ?_, ?_⟩
  · unfold spec_OpName spec_OpName.a1
    rcases h with h | h
    · simp [show ¬ 1 ≤ a by omega, show ¬ 10 ≤ a by omega]
    · simp [show 1 ≤ a by omega, show ¬ a ≤ 5 by omega, show 10 ≤ a by omega, show ¬ a ≤ 38 by omega]
  · have : opKnown a = false := by unfold opKnown; rw [decide_eq_false_iff_not]; omega
    rw [this]; simp
theorem implOp (a : Int) : ∃ t, impl_OpName a = some t ∧ (t.toList == (⟨#[]⟩ : ByteArray).toList) = !opKnown a := by
  rcases op_cases a with (rfl | rfl | rfl | rfl | rfl | rfl | rfl | rfl | rfl | rfl | rfl | rfl | rfl | rfl | rfl | rfl | rfl | rfl | rfl | rfl | rfl | rfl | rfl | rfl | rfl | rfl | rfl | rfl | rfl | rfl | rfl | rfl | rfl | rfl | rfl | rfl | rfl | rfl | rfl) | h
  all_goals (try exact ⟨_, rfl, by decide +kernel⟩)
  refine ⟨⟨#[]⟩, ?_, ?_⟩
  · unfold impl_OpName impl_in
    rcases h with h | h
    · simp [show ¬ 0 ≤ a by omega]
    · simp [show 0 ≤ a by omega, show ¬ a ≤ 38 by omega]
  · have : opKnown a = false := by unfold opKnown; rw [decide_eq_false_iff_not]; omega
    rw [this]; simp
theorem specIns (k : Nat) {p : GProgram} {f : Nat} {m : GFunc} (hm : p.funcs[f]? = some m) (i : GI2) : spec_InsRight k p (f : Int) i = some (insOk p m i) := by
  obtain ⟨a, b⟩ := i
  have hf := (List.getElem?_eq_some_iff.1 hm).1
  obtain ⟨t, ht, hk⟩ := specOp k a
  unfold spec_InsRight spec_InsRight.a1 spec_InsRight.a2 spec_InsRight.a3 spec_InsRight.a4 insOk
  simp only [show ¬ (f : Int) < 0 by omega, show ¬ (f : Int) ≥ (p.funcs.length : Int) by omega, decide_false, cond_false, Option.bind_some, Sum.elim_inr, idx_nat, hm, ht, hk]
  by_cases h1 : a = 1
  · simp [h1]
  have e1 : (a == 1) = false := by simpa using h1
  by_cases h2 : a = 2
  · by_cases hb : 0 ≤ b <;> simp [h2, hb, idx_nat, hm]
  have e2 : (a == 2) = false := by simpa using h2
  by_cases h3 : a = 3
  · by_cases hb : 0 ≤ b <;> simp [h3, hb, idx_nat, hm]
  have e3 : (a == 3) = false := by simpa using h3
  by_cases h4 : a = 30
  · by_cases hb : 0 ≤ b <;> simp [h4, hb, idx_nat, hm]
  have e4 : (a == 30) = false := by simpa using h4
  by_cases h5 : a = 31
  · by_cases hb : 0 ≤ b <;> simp [h5, hb, idx_nat, hm]
  have e5 : (a == 31) = false := by simpa using h5
  by_cases h6 : a = 32
  · by_cases hb : 0 ≤ b <;> simp [h6, hb, idx_nat, hm]
  have e6 : (a == 32) = false := by simpa using h6
  simp only [e1, e2, e3, e4, e5, e6, h1, h2, h3, h4, h5, h6, cond_false, Option.bind_some, Sum.elim_inr, if_false, or_self]
  simp only [ht, hk, Option.bind_some, Bool.not_not]
  cases opKnown a <;> simp
theorem implIns (k : Nat) {p : GProgram} {f : Nat} {m : GFunc} (hm : p.funcs[f]? = some m) (i : GI2) : impl_InsRight k p (f : Int) i = some (insOk p m i) := by
  obtain ⟨a, b⟩ := i
  have hf := (List.getElem?_eq_some_iff.1 hm).1
  obtain ⟨t, ht, hk⟩ := implOp a
  unfold impl_InsRight impl_InsRight.a1 impl_InsRight.a2 impl_InsRight.a3 impl_hasFunc insOk
  simp only [show (f : Int) ≥ 0 by omega, show (f : Int) < (p.funcs.length : Int) by omega, decide_true, cond_true, cond_false, Bool.not_true, Option.bind_some, Sum.elim_inr, idx_nat, hm, ht, hk]
  by_cases h1 : a = 1
  · simp [h1]
  have e1 : (a == 1) = false := by simpa using h1
  by_cases h2 : a = 2
  · by_cases hb : 0 ≤ b <;> simp [h2, hb, idx_nat, hm]
  have e2 : (a == 2) = false := by simpa using h2
  by_cases h3 : a = 3
  · by_cases hb : 0 ≤ b <;> simp [h3, hb, idx_nat, hm]
  have e3 : (a == 3) = false := by simpa using h3
  by_cases h4 : a = 30
  · by_cases hb : 0 ≤ b <;> simp [h4, hb, idx_nat, hm]
  have e4 : (a == 30) = false := by simpa using h4
  by_cases h5 : a = 31
  · by_cases hb : 0 ≤ b <;> simp [h5, hb, idx_nat, hm]
  have e5 : (a == 31) = false := by simpa using h5
  by_cases h6 : a = 32
  · by_cases hb : 0 ≤ b <;> simp [h6, hb, idx_nat, hm]
  have e6 : (a == 32) = false := by simpa using h6
  simp only [e1, e2, e3, e4, e5, e6, h1, h2, h3, h4, h5, h6, cond_false, Option.bind_some, Sum.elim_inr, if_false, or_self]
  simp only [ht, hk, Option.bind_some, Bool.not_not]
  cases opKnown a <;> simp
theorem insOk_jump {p : GProgram} {m : GFunc} {i : GI2} (h : insOk p m i = true) (hj : i.a = 30 ∨ i.a = 31) : 0 ≤ i.b ∧ i.b < (m.code.length : Int) := by
  unfold insOk at h
  rw [if_neg (by omega), if_neg (by omega), if_pos hj] at h
  simpa using h
def h0 (n : Nat) : List Int := (List.replicate n (-1)).set 0 0
def w0 (n : Nat) : List Bool := (List.replicate n false).set 0 true
theorem h0_len (n : Nat) : (h0 n).length = n := by simp [h0]
theorem w0_len (n : Nat) : (w0 n).length = n := by simp [w0]
theorem h0_inv {A W : Int → Prop} (n : Nat) (a1 : A (-1)) (a0 : A 0) (hw : W 0) : HInv A W (h0 n) (w0 n) := by
  refine ⟨by rw [h0_len, w0_len], fun j x hx => ?_, fun j x hx hj => ?_⟩
  · by_cases e : 0 = j
    · subst e
      unfold h0 at hx
      by_cases hn : 0 < n
      · rw [List.getElem?_set_self (by simpa using hn)] at hx; cases hx; exact a0
      · rw [List.getElem?_eq_none (by simp; omega)] at hx; cases hx
    · unfold h0 at hx
      rw [List.getElem?_set_ne e, List.getElem?_replicate] at hx
      split at hx
      · cases hx; exact a1
      · cases hx
  · by_cases e : 0 = j
    · subst e
      unfold h0 at hx
      by_cases hn : 0 < n
      · rw [List.getElem?_set_self (by simpa using hn)] at hx; cases hx; exact hw
      · rw [List.getElem?_eq_none (by simp; omega)] at hx; cases hx
    · unfold w0 at hj
      rw [List.getElem?_set_ne e, List.getElem?_replicate] at hj
      split at hj <;> cases hj
theorem specFill (fs : List GFunc) (z : GI3) (f : Int) (code : List GI2) (n : Nat) (hn : n < 1000000) : ∀ (d i : Nat) (acc : List Int), n - i = d → i ≤ n → acc.length = n → (∀ j : Nat, j < i → acc[j]? = some (-1)) →
    Ev (fun k => spec_l04Heights.l1 k fs z acc f code (i : Int)) (fs, z, List.replicate n (-1), f, code) := by
  intro d
  induction d with
  | zero =>
    intro i acc hd hi ha hj
    have : acc = List.replicate n (-1) := by
      apply List.ext_getElem?
      intro j
      rcases Nat.lt_or_ge j n with h | h
      · rw [hj j (by omega), List.getElem?_replicate, if_pos h]
      · rw [List.getElem?_eq_none (by omega), List.getElem?_eq_none (by simp; omega)]
    rw [this]
    refine Ev.succ ?_
    simp only [spec_l04Heights.l1]
    exact Ev.cf (df (by simp; omega)) Ev.pure
  | succ d ih =>
    intro i acc hd hi ha hj
    obtain ⟨m, hm⟩ := list_get (show i < acc.length by omega)
    refine Ev.succ ?_
    simp only [spec_l04Heights.l1]
    refine Ev.ct (dt (by omega)) (Ev.idx hm ?_)
    rw [wrap_nat (by omega), Int.toNat_natCast]
    refine ih (i + 1) _ (by omega) (by omega) (by simpa using ha) (fun j hji => ?_)
    by_cases e : i = j
    · subst e; rw [List.getElem?_set_self (by omega)]
    · rw [List.getElem?_set_ne e]; exact hj j (by omega)
theorem implFill (fs : List GFunc) (w : List Bool) (code : List GI2) (n : Nat) (hn : n < 1000000) : ∀ (d i : Nat) (acc : List Int), n - i = d → i ≤ n → acc.length = n → (∀ j : Nat, j < i → acc[j]? = some (-1)) →
    Ev (fun k => impl_heightsOf.l1 k fs acc w code (n : Int) (i : Int)) (fs, List.replicate n (-1), w, code) := by
  intro d
  induction d with
  | zero =>
    intro i acc hd hi ha hj
    have : acc = List.replicate n (-1) := by
      apply List.ext_getElem?
      intro j
      rcases Nat.lt_or_ge j n with h | h
      · rw [hj j (by omega), List.getElem?_replicate, if_pos h]
      · rw [List.getElem?_eq_none (by omega), List.getElem?_eq_none (by simp; omega)]
    rw [this]
    refine Ev.succ ?_
    simp only [impl_heightsOf.l1]
    exact Ev.cf (df (by omega)) Ev.pure
  | succ d ih =>
    intro i acc hd hi ha hj
    obtain ⟨m, hm⟩ := list_get (show i < acc.length by omega)
    refine Ev.succ ?_
    simp only [impl_heightsOf.l1]
    refine Ev.ct (dt (by omega)) (Ev.idx hm ?_)
    rw [wrap_nat (by omega), Int.toNat_natCast]
    refine ih (i + 1) _ (by omega) (by omega) (by simpa using ha) (fun j hji => ?_)
    by_cases e : i = j
    · subst e; rw [List.getElem?_set_self (by omega)]
    · rw [List.getElem?_set_ne e]; exact hj j (by omega)
theorem rep_get {α : Type} {n : Nat} {x : α} (h : 1 ≤ n) : (List.replicate n x)[(0 : Int).toNat]? = some x := by
  rw [List.getElem?_replicate, if_pos (by simp; omega)]
theorem specHeights {p : GProgram} {f : Nat} {m : GFunc} (hm : p.funcs[f]? = some m) (hj : JumpsOk m.code) (h1 : 1 ≤ m.code.length) (h2 : m.code.length ≤ 60) {r : Option (List Int)}
    (hr : HRun (stepS p m.code) (h0 m.code.length) (w0 m.code.length) r) : ∃ o, Ev (fun k => spec_l04Heights k p (f : Int)) o ∧ SpecRes m.code o r := by
  obtain ⟨o, ho, hres⟩ := specRun p (f : Int) m.code ⟨0, 0, 0⟩ hj (by omega) hr (h0_len _) (w0_len _)
  refine ⟨o, ?_, hres⟩
  unfold spec_l04Heights
  refine Ev.idx hm (Ev.gd ⟨by omega, by omega, by omega⟩ (Ev.bind (specFill p.funcs ⟨0, 0, 0⟩ (f : Int) m.code m.code.length (by omega) _ 0 _ rfl (by omega) (by simp) (fun j hj => by omega)) ?_))
  refine Ev.idxI (by omega) (rep_get h1) (Ev.gd ⟨by simp, by simp; omega, by simp; omega⟩ (Ev.idxI (by omega) (rep_get h1) (Ev.bind ho Ev.pure)))
def HRes (code : List GI2) (o : List Int × Int × Int) : Option (List Int) → Prop
  | some hf => o = (hf, 0, 0) ∧ hf.length = code.length
  | none => o.2.2 ≠ 0
theorem implHeights {p : GProgram} {f : Nat} {m : GFunc} (hm : p.funcs[f]? = some m) (hj : JumpsOk m.code) (h1 : 1 ≤ m.code.length) (h2 : m.code.length ≤ 60) {r : Option (List Int)}
    (hr : HRun (stepI p m.code) (h0 m.code.length) (w0 m.code.length) r) : ∃ o, Ev (fun k => impl_heightsOf k p (f : Int)) o ∧ HRes m.code o r := by
  obtain ⟨o, ho, hres⟩ := implRun p m.code hj (by omega) hr (h0_len _) (w0_len _) 0 (by omega) (fun j hj => by omega)
  have key : ∀ o', (Ev (fun _ => (Sum.elim (fun o2l => some (o2l.1, o2l.2.1, o2l.2.2)) (fun o2r => some (o2r, 0, 0)) o : Option (List Int × Int × Int))) o') → Ev (fun k => impl_heightsOf k p (f : Int)) o' := by
    intro o' h'
    unfold impl_heightsOf
    refine Ev.idx hm (Ev.gd ⟨by omega, by omega, by omega⟩ (Ev.gd ⟨by omega, by omega, by omega⟩ (Ev.bind (implFill p.funcs _ m.code m.code.length (by omega) _ 0 _ rfl (by omega) (by simp) (fun j hj => by omega)) ?_)))
    exact Ev.idxI (by omega) (rep_get h1) (Ev.idxI (by omega) (rep_get h1) (Ev.bind ho h'))
  cases r with
  | none =>
    obtain ⟨e, rfl, he⟩ := hres
    exact ⟨_, key _ Ev.pure, he⟩
  | some hf =>
    obtain ⟨rfl, hl⟩ := hres
    exact ⟨_, key _ Ev.pure, rfl, hl⟩
theorem heights_both {p : GProgram} (ha : Args64 p) {f : Nat} {m : GFunc} (hm : p.funcs[f]? = some m) (hj : JumpsOk m.code) (h1 : 1 ≤ m.code.length) (h2 : m.code.length ≤ 60) :
    ∃ rI rS oI oS, HRun (stepI p m.code) (h0 m.code.length) (w0 m.code.length) rI ∧ Ev (fun k => impl_heightsOf k p (f : Int)) oI ∧ HRes m.code oI rI ∧ Ev (fun k => spec_l04Heights k p (f : Int)) oS ∧ SpecRes m.code oS rS ∧ (Normal p → rI = rS ∧ HRun (stepN p m.code) (h0 m.code.length) (w0 m.code.length) rI) := by
  obtain ⟨rI, hI⟩ := run_ex (goodI p m.code ha) _ _ _ rfl (h0_len _) (h0_inv m.code.length (by omega) (by omega) (by omega))
  obtain ⟨rS, hS⟩ := run_ex (goodS p m.code ha) _ _ _ rfl (h0_len _) (h0_inv m.code.length (by omega) (by omega) (by omega))
  obtain ⟨oI, e1, e2⟩ := implHeights hm hj h1 h2 hI
  obtain ⟨oS, e3, e4⟩ := specHeights hm hj h1 h2 hS
  refine ⟨rI, rS, oI, oS, hI, e1, e2, e3, e4, fun hN => ?_⟩
  have hi : HInv A1 W1 (h0 m.code.length) (w0 m.code.length) := h0_inv m.code.length (by omega) (by omega) (by omega)
  have i1 := run_N hN (fun x h w hh hw => stepI_N hN hh hw) hI hi
  have i2 := run_N hN (fun x h w hh hw => stepS_N hN hh hw) hS hi
  exact ⟨run_same i1 i2, i1⟩
end Go.Proofs.YtdlaplgofgklnaaDoor
namespace Go.Proofs.YtdlaplgofgklnaaDoor
open Go.Proofs Go.Proofs.YtdlaplgofgklnaaDoor.L
set_option linter.unusedVariables false
set_option linter.unusedSimpArgs false
structure FormOk (p : GProgram) (m : GFunc) : Prop where
  args : 0 ≤ m.args ∧ m.args ≤ 4
  locals : m.args ≤ m.locals ∧ m.locals ≤ 8
  code : 1 ≤ m.code.length ∧ m.code.length ≤ 60
  ins : ∀ i ∈ m.code, insOk p m i = true
theorem FormOk.jumps {p : GProgram} {m : GFunc} (h : FormOk p m) : JumpsOk m.code := fun i hi hj => insOk_jump (h.ins i hi) hj
abbrev RunI (p : GProgram) (m : GFunc) (r : Option (List Int)) : Prop := HRun (stepI p m.code) (h0 m.code.length) (w0 m.code.length) r
abbrev RunS (p : GProgram) (m : GFunc) (r : Option (List Int)) : Prop := HRun (stepS p m.code) (h0 m.code.length) (w0 m.code.length) r
abbrev RunN (p : GProgram) (m : GFunc) (r : Option (List Int)) : Prop := HRun (stepN p m.code) (h0 m.code.length) (w0 m.code.length) r
theorem ins_from {p : GProgram} {m : GFunc} : (∀ i ∈ m.code, insOk p m i = true) ∨ ∃ x i, m.code[x]? = some i ∧ insOk p m i = false ∧ ∀ (y : Nat) (j : GI2), y < x → m.code[y]? = some j → insOk p m j = true := by
  by_cases h : ∀ i ∈ m.code, insOk p m i = true
  · exact .inl h
  · right
    obtain ⟨x, i, hx, hi⟩ : ∃ x i, m.code[x]? = some i ∧ insOk p m i = false := by
      have : ∃ i, i ∈ m.code ∧ insOk p m i = false := by
        refine Classical.byContradiction fun hh => h fun i hi => ?_
        cases e : insOk p m i with
        | true => rfl
        | false => exact absurd ⟨i, hi, e⟩ hh
      obtain ⟨i, hi, he⟩ := this
      obtain ⟨x, hx⟩ := List.getElem?_of_mem hi
      exact ⟨x, i, hx, he⟩
    induction x using Nat.strongRecOn generalizing i with
    | _ x ih =>
      by_cases c : ∃ y j, y < x ∧ m.code[y]? = some j ∧ insOk p m j = false
      · obtain ⟨y, j, hy, hj, he⟩ := c
        exact ih y hy j hj he
      · refine ⟨x, i, hx, hi, fun y j hy hj => ?_⟩
        cases e : insOk p m j with
        | true => rfl
        | false => exact absurd ⟨y, j, hy, hj, e⟩ c
theorem implInsLoop {p : GProgram} {f : Nat} {m : GFunc} (hm : p.funcs[f]? = some m) (hl : m.code.length ≤ 60) (z : GI3) (hs : List (List Int)) (fs : List GFunc) (L J : Int) (h : ∀ i ∈ m.code, insOk p m i = true) : ∀ (d x : Nat), m.code.length - x = d → x ≤ m.code.length →
    Ev (fun k => impl_verify.l5 k p.funcs z hs (f : Int) fs L J m.code (m.code.length : Int) (x : Int)) (.inr (p.funcs, z, hs, (f : Int), fs, L, J)) := by
  intro d
  induction d with
  | zero =>
    intro x hd hx
    refine Ev.succ ?_
    simp only [impl_verify.l5]
    exact Ev.cf (df (by omega)) Ev.pure
  | succ d ih =>
    intro x hd hx
    obtain ⟨i, hi⟩ := list_get (show x < m.code.length by omega)
    refine Ev.succ ?_
    simp only [impl_verify.l5]
    refine Ev.ct (dt (by omega)) (Ev.idx hi (Ev.bind (Ev.of fun k => implIns k hm i) (Ev.cf (by rw [h i (List.mem_of_getElem? hi)]; rfl) ?_)))
    rw [wrap_nat (by omega)]
    exact ih (x + 1) (by omega) (by omega)
theorem implInsBad {p : GProgram} {f : Nat} {m : GFunc} (hm : p.funcs[f]? = some m) (hl : m.code.length ≤ 60) (z : GI3) (hs : List (List Int)) (fs : List GFunc) (L J : Int) {y : Nat} {b : GI2} (hy : m.code[y]? = some b) (hb : insOk p m b = false) (h : ∀ (x : Nat) (j : GI2), x < y → m.code[x]? = some j → insOk p m j = true) : ∀ (d x : Nat), y - x = d → x ≤ y →
    Ev (fun k => impl_verify.l5 k p.funcs z hs (f : Int) fs L J m.code (m.code.length : Int) (x : Int)) (.inl (⟨(f : Int), (y : Int), 1⟩, [])) := by
  have hyl := (List.getElem?_eq_some_iff.1 hy).1
  intro d
  induction d with
  | zero =>
    intro x hd hx
    have : x = y := by omega
    subst this
    refine Ev.succ ?_
    simp only [impl_verify.l5]
    exact Ev.ct (dt (by omega)) (Ev.idx hy (Ev.bind (Ev.of fun k => implIns k hm b) (Ev.ct (by rw [hb]; rfl) Ev.pure)))
  | succ d ih =>
    intro x hd hx
    obtain ⟨i, hi⟩ := list_get (show x < m.code.length by omega)
    refine Ev.succ ?_
    simp only [impl_verify.l5]
    refine Ev.ct (dt (by omega)) (Ev.idx hi (Ev.bind (Ev.of fun k => implIns k hm i) (Ev.cf (by rw [h x i (by omega) hi]; rfl) ?_)))
    rw [wrap_nat (by omega)]
    exact ih (x + 1) (by omega) (by omega)
theorem specInsLoop {p : GProgram} {f : Nat} {m : GFunc} (hm : p.funcs[f]? = some m) (hl : m.code.length ≤ 60) (z : GI3) (A B : Int) (h : ∀ i ∈ m.code, insOk p m i = true) : ∀ (d x : Nat), m.code.length - x = d → x ≤ m.code.length →
    Ev (fun k => spec_l04Func.l2 k p.funcs z A B m.code (f : Int) (x : Int)) (.inr (p.funcs, z, (f : Int))) := by
  intro d
  induction d with
  | zero =>
    intro x hd hx
    refine Ev.succ ?_
    simp only [spec_l04Func.l2]
    exact Ev.cf (df (by omega)) Ev.pure
  | succ d ih =>
    intro x hd hx
    obtain ⟨i, hi⟩ := list_get (show x < m.code.length by omega)
    refine Ev.succ ?_
    simp only [spec_l04Func.l2]
    refine Ev.ct (dt (by omega)) (Ev.idx hi (Ev.bind (Ev.of fun k => specIns k hm i) (Ev.cf (by rw [h i (List.mem_of_getElem? hi)]; rfl) ?_)))
    rw [wrap_nat (by omega)]
    exact ih (x + 1) (by omega) (by omega)
theorem specInsBad {p : GProgram} {f : Nat} {m : GFunc} (hm : p.funcs[f]? = some m) (hl : m.code.length ≤ 60) (z : GI3) (A B : Int) {y : Nat} {b : GI2} (hy : m.code[y]? = some b) (hb : insOk p m b = false) (h : ∀ (x : Nat) (j : GI2), x < y → m.code[x]? = some j → insOk p m j = true) : ∀ (d x : Nat), y - x = d → x ≤ y →
    Ev (fun k => spec_l04Func.l2 k p.funcs z A B m.code (f : Int) (x : Int)) (.inl ⟨(f : Int), (y : Int), 1⟩) := by
  have hyl := (List.getElem?_eq_some_iff.1 hy).1
  intro d
  induction d with
  | zero =>
    intro x hd hx
    have : x = y := by omega
    subst this
    refine Ev.succ ?_
    simp only [spec_l04Func.l2]
    exact Ev.ct (dt (by omega)) (Ev.idx hy (Ev.bind (Ev.of fun k => specIns k hm b) (Ev.ct (by rw [hb]; rfl) Ev.pure)))
  | succ d ih =>
    intro x hd hx
    obtain ⟨i, hi⟩ := list_get (show x < m.code.length by omega)
    refine Ev.succ ?_
    simp only [spec_l04Func.l2]
    refine Ev.ct (dt (by omega)) (Ev.idx hi (Ev.bind (Ev.of fun k => specIns k hm i) (Ev.cf (by rw [h x i (by omega) hi]; rfl) ?_)))
    rw [wrap_nat (by omega)]
    exact ih (x + 1) (by omega) (by omega)
def formB (m : GFunc) : Prop := (0 ≤ m.args ∧ m.args ≤ 4) ∧ (m.args ≤ m.locals ∧ m.locals ≤ 8) ∧ 1 ≤ m.code.length ∧ m.code.length ≤ 60
instance (m : GFunc) : Decidable (formB m) := by unfold formB; exact inferInstance
theorem impl_in_eq (n a b : Int) : impl_in n a b = some (decide (a ≤ n ∧ n ≤ b)) := by
  unfold impl_in
  by_cases h : a ≤ n
  · simp [h]
  · simp [h]
theorem implFunc {p : GProgram} (ha : Args64 p) {f : Nat} {m : GFunc} (hm : p.funcs[f]? = some m) (z : GI3) (L : Int) :
    (∃ e : GI3, e.c ≠ 0 ∧ (∀ h, ¬ (FormOk p m ∧ RunI p m (some h))) ∧ ∀ hs, Ev (fun k => impl_verify.a3 k p.funcs z hs p.funcs L (f : Int)) (.inl (e, []))) ∨
    (∃ h, FormOk p m ∧ RunI p m (some h) ∧ h.length = m.code.length ∧ ∀ hs : List (List Int), hs.length ≤ 100 → Ev (fun k => impl_verify.a3 k p.funcs z hs p.funcs L (f : Int)) (.inr (p.funcs, z, hs ++ [h], p.funcs, L, (f : Int)))) := by
  by_cases hf : formB m
  · obtain ⟨f1, f2, f3, f4⟩ := hf
    have ha4 : ∀ hs, Ev (fun k => impl_verify.a4 k p.funcs z hs m.args m.locals m.code (f : Int) p.funcs L (f : Int)) (.inr (p.funcs, z, hs, m.args, m.locals, m.code, (f : Int), p.funcs, L, (f : Int))) := by
      intro hs
      unfold impl_verify.a4
      simp only [impl_in_eq]
      refine Ev.bind Ev.pure (Ev.cf (by simp; omega) (Ev.bind Ev.pure (Ev.cf (by simp; omega) (Ev.bind Ev.pure (Ev.cf (by simp; omega) Ev.pure)))))
    rcases ins_from (p := p) (m := m) with hi | ⟨y, b, hy, hb, hlt⟩
    · have hF : FormOk p m := ⟨f1, f2, ⟨f3, f4⟩, hi⟩
      obtain ⟨rI, rS, oI, oS, hI, e1, e2, -, -, -⟩ := heights_both ha hm hF.jumps f3 f4
      cases rI with
      | none =>
        left
        refine ⟨⟨(f : Int), oI.2.1, oI.2.2⟩, e2, fun h hh => (by have := run_same hI hh.2; cases this), fun hs => ?_⟩
        unfold impl_verify.a3
        refine Ev.idx hm (Ev.bind (ha4 hs) (Ev.bind (implInsLoop hm f4 z hs p.funcs L (f : Int) hi _ 0 rfl (by omega)) ?_))
        refine Ev.bind e1 (Ev.ct ?_ Ev.pure)
        have e2' : oI.2.2 ≠ 0 := e2
        simpa using e2'
      | some h =>
        right
        obtain ⟨rfl, hl⟩ := e2
        refine ⟨h, hF, hI, hl, fun hs hlen => ?_⟩
        unfold impl_verify.a3
        refine Ev.idx hm (Ev.bind (ha4 hs) (Ev.bind (implInsLoop hm f4 z hs p.funcs L (f : Int) hi _ 0 rfl (by omega)) ?_))
        exact Ev.bind e1 (Ev.cf (by simp) (Ev.gd ⟨by simp only []; omega, by simp only []; omega⟩ Ev.pure))
    · left
      refine ⟨⟨(f : Int), (y : Int), 1⟩, by simp, fun h hh => (by have := hh.1.ins b (List.mem_of_getElem? hy); rw [hb] at this; cases this), fun hs => ?_⟩
      unfold impl_verify.a3
      exact Ev.idx hm (Ev.bind (ha4 hs) (Ev.bind (implInsBad hm f4 z hs p.funcs L (f : Int) hy hb hlt _ 0 rfl (by omega)) Ev.pure))
  · left
    refine ⟨⟨(f : Int), 0, 1⟩, by simp, fun h hh => hf ⟨hh.1.args, hh.1.locals, hh.1.code⟩, fun hs => ?_⟩
    have ha4 : Ev (fun k => impl_verify.a4 k p.funcs z hs m.args m.locals m.code (f : Int) p.funcs L (f : Int)) (.inl (⟨(f : Int), 0, 1⟩, [])) := by
      unfold impl_verify.a4
      simp only [impl_in_eq]
      refine Ev.bind Ev.pure ?_
      by_cases c1 : 0 ≤ m.args ∧ m.args ≤ 4
      · refine Ev.cf (by simp; omega) (Ev.bind Ev.pure ?_)
        by_cases c2 : m.args ≤ m.locals ∧ m.locals ≤ 8
        · refine Ev.cf (by simp; omega) (Ev.bind Ev.pure ?_)
          by_cases c3 : 1 ≤ m.code.length ∧ m.code.length ≤ 60
          · exact absurd ⟨c1, c2, c3⟩ hf
          · exact Ev.ct (by simp; omega) Ev.pure
        · exact Ev.ct (by simp; omega) Ev.pure
      · exact Ev.ct (by simp; omega) Ev.pure
    unfold impl_verify.a3
    exact Ev.idx hm (Ev.bind ha4 Ev.pure)
theorem specFunc {p : GProgram} (ha : Args64 p) {f : Nat} {m : GFunc} (hm : p.funcs[f]? = some m) :
    ∃ o, Ev (fun k => spec_l04Func k p (f : Int)) o ∧ (o.c = 0 ↔ FormOk p m ∧ ∃ h, RunS p m (some h)) := by
  by_cases hf : formB m
  · obtain ⟨f1, f2, f3, f4⟩ := hf
    have ha1 : Ev (fun k => spec_l04Func.a1 k p.funcs ⟨0, 0, 0⟩ m.args m.locals m.code (f : Int)) (.inr (p.funcs, ⟨0, 0, 0⟩, m.args, m.locals, m.code, (f : Int))) := by
      unfold spec_l04Func.a1
      exact Ev.cf (df (by omega)) (Ev.cf (df (by omega)) (Ev.cf (df (by omega)) (Ev.cf (df (by omega)) (Ev.cf (df (by omega)) (Ev.cf (df (by omega)) Ev.pure)))))
    rcases ins_from (p := p) (m := m) with hi | ⟨y, b, hy, hb, hlt⟩
    · have hF : FormOk p m := ⟨f1, f2, ⟨f3, f4⟩, hi⟩
      obtain ⟨rS, hS⟩ := run_ex (goodS p m.code ha) _ _ _ rfl (h0_len _) (h0_inv m.code.length (by omega) (by omega) (by omega))
      obtain ⟨oS, e3, e4⟩ := specHeights hm hF.jumps f3 f4 hS
      refine ⟨oS.2, ?_, ?_⟩
      · unfold spec_l04Func
        exact Ev.idx hm (Ev.bind ha1 (Ev.bind (specInsLoop hm f4 ⟨0, 0, 0⟩ m.args m.locals hi _ 0 rfl (by omega)) (Ev.bind e3 Ev.pure)))
      · cases rS with
        | none =>
          refine ⟨fun h => absurd h e4, fun ⟨_, h, hh⟩ => ?_⟩
          have := run_same hS hh; cases this
        | some h =>
          obtain ⟨rfl, hl⟩ := e4
          exact ⟨fun _ => ⟨hF, h, hS⟩, fun _ => rfl⟩
    · refine ⟨⟨(f : Int), (y : Int), 1⟩, ?_, ?_⟩
      · unfold spec_l04Func
        exact Ev.idx hm (Ev.bind ha1 (Ev.bind (specInsBad hm f4 ⟨0, 0, 0⟩ m.args m.locals hy hb hlt _ 0 rfl (by omega)) Ev.pure))
      · refine ⟨fun h => (by cases h), fun hh => ?_⟩
        have := hh.1.ins b (List.mem_of_getElem? hy); rw [hb] at this; cases this
  · refine ⟨⟨(f : Int), 0, 1⟩, ?_, ⟨fun h => (by cases h), fun hh => absurd ⟨hh.1.args, hh.1.locals, hh.1.code⟩ hf⟩⟩
    have ha1 : Ev (fun k => spec_l04Func.a1 k p.funcs ⟨0, 0, 0⟩ m.args m.locals m.code (f : Int)) (.inl ⟨(f : Int), 0, 1⟩) := by
      unfold spec_l04Func.a1
      by_cases c1 : m.args < 0
      · exact Ev.ct (dt c1) Ev.pure
      refine Ev.cf (df c1) ?_
      by_cases c2 : m.args > 4
      · exact Ev.ct (dt c2) Ev.pure
      refine Ev.cf (df c2) ?_
      by_cases c3 : m.locals < m.args
      · exact Ev.ct (dt c3) Ev.pure
      refine Ev.cf (df c3) ?_
      by_cases c4 : m.locals > 8
      · exact Ev.ct (dt c4) Ev.pure
      refine Ev.cf (df c4) ?_
      by_cases c5 : (m.code.length : Int) < 1
      · exact Ev.ct (dt c5) Ev.pure
      refine Ev.cf (df c5) ?_
      by_cases c6 : (m.code.length : Int) > 60
      · exact Ev.ct (dt c6) Ev.pure
      exact absurd ⟨by omega, by omega, by omega, by omega⟩ hf
    unfold spec_l04Func
    exact Ev.idx hm (Ev.bind ha1 Ev.pure)
structure RightP (p : GProgram) : Prop where
  many : 1 ≤ p.funcs.length ∧ p.funcs.length ≤ 6
  all : ∀ m ∈ p.funcs, FormOk p m ∧ ∃ h, RunN p m (some h)
theorem RightP.normal {p : GProgram} (h : RightP p) : Normal p := fun m hm => (h.all m hm).1.args
structure Hts (p : GProgram) (hs : List (List Int)) : Prop where
  len : hs.length = p.funcs.length
  at_ : ∀ (x : Nat) (m : GFunc), p.funcs[x]? = some m → ∃ h, hs[x]? = some h ∧ RunN p m (some h) ∧ h.length = m.code.length
theorem inv1 (n : Nat) : HInv A1 W1 (h0 n) (w0 n) := h0_inv n (by omega) (by omega) (by omega)
theorem runI_N {p : GProgram} (hN : Normal p) {m : GFunc} {r : Option (List Int)} (h : RunI p m r) : RunN p m r := run_N hN (fun x h w hh hw => stepI_N hN hh hw) h (inv1 _)
theorem runS_N {p : GProgram} (hN : Normal p) {m : GFunc} {r : Option (List Int)} (h : RunS p m r) : RunN p m r := run_N hN (fun x h w hh hw => stepS_N hN hh hw) h (inv1 _)
theorem runN_I {p : GProgram} (ha : Args64 p) (hN : Normal p) {m : GFunc} {r : Option (List Int)} (h : RunN p m r) : RunI p m r := by
  obtain ⟨r', h'⟩ := run_ex (goodI p m.code ha) _ _ _ rfl (h0_len _) (h0_inv m.code.length (by omega) (by omega) (by omega))
  rw [run_same h (runI_N hN h')]
  exact h'
theorem runN_S {p : GProgram} (ha : Args64 p) (hN : Normal p) {m : GFunc} {r : Option (List Int)} (h : RunN p m r) : RunS p m r := by
  obtain ⟨r', h'⟩ := run_ex (goodS p m.code ha) _ _ _ rfl (h0_len _) (h0_inv m.code.length (by omega) (by omega) (by omega))
  rw [run_same h (runS_N hN h')]
  exact h'
theorem implVerLoop {p : GProgram} (ha : Args64 p) (hl : p.funcs.length ≤ 6) (z : GI3) : ∀ (d j : Nat) (hs : List (List Int)), p.funcs.length - j = d → j ≤ p.funcs.length → hs.length = j →
    (∀ (x : Nat) (m : GFunc), x < j → p.funcs[x]? = some m → ∃ h, hs[x]? = some h ∧ FormOk p m ∧ RunI p m (some h) ∧ h.length = m.code.length) →
    (∃ e : GI3, e.c ≠ 0 ∧ (∃ m ∈ p.funcs, ∀ h, ¬ (FormOk p m ∧ RunI p m (some h))) ∧ Ev (fun k => impl_verify.l2 k p.funcs z hs p.funcs (p.funcs.length : Int) (j : Int)) (.inl (e, []))) ∨
    (∃ hs', Ev (fun k => impl_verify.l2 k p.funcs z hs p.funcs (p.funcs.length : Int) (j : Int)) (.inr (z, hs')) ∧ hs'.length = p.funcs.length ∧ ∀ (x : Nat) (m : GFunc), p.funcs[x]? = some m → ∃ h, hs'[x]? = some h ∧ FormOk p m ∧ RunI p m (some h) ∧ h.length = m.code.length) := by
  intro d
  induction d with
  | zero =>
    intro j hs hd hj hlen hall
    right
    refine ⟨hs, ?_, by omega, fun x m hm => hall x m (by have := (List.getElem?_eq_some_iff.1 hm).1; omega) hm⟩
    refine Ev.succ ?_
    simp only [impl_verify.l2]
    exact Ev.cf (df (by omega)) Ev.pure
  | succ d ih =>
    intro j hs hd hj hlen hall
    obtain ⟨m, hm⟩ := list_get (show j < p.funcs.length by omega)
    rcases implFunc ha hm z (p.funcs.length : Int) with ⟨e, he, hno, hev⟩ | ⟨h, hF, hI, hlh, hev⟩
    · left
      refine ⟨e, he, ⟨m, List.mem_of_getElem? hm, hno⟩, ?_⟩
      refine Ev.succ ?_
      simp only [impl_verify.l2]
      exact Ev.ct (dt (by omega)) (Ev.bind (hev hs) Ev.pure)
    · have hall' : ∀ (x : Nat) (m : GFunc), x < j + 1 → p.funcs[x]? = some m → ∃ h', (hs ++ [h])[x]? = some h' ∧ FormOk p m ∧ RunI p m (some h') ∧ h'.length = m.code.length := by
        intro x m' hx hm'
        by_cases c : x < j
        · obtain ⟨h', g1, g2⟩ := hall x m' c hm'
          exact ⟨h', by rw [List.getElem?_append_left (by omega)]; exact g1, g2⟩
        · have : x = j := by omega
          subst this
          rw [hm] at hm'
          cases hm'
          exact ⟨h, by rw [List.getElem?_append_right (by omega)]; simp [hlen], hF, hI, hlh⟩
      have step : ∀ o, Ev (fun k => impl_verify.l2 k p.funcs z (hs ++ [h]) p.funcs (p.funcs.length : Int) ((j + 1 : Nat) : Int)) o → Ev (fun k => impl_verify.l2 k p.funcs z hs p.funcs (p.funcs.length : Int) (j : Int)) o := by
        intro o ho
        refine Ev.succ ?_
        simp only [impl_verify.l2]
        refine Ev.ct (dt (by omega)) (Ev.bind (hev hs (by omega)) ?_)
        simp only [Sum.elim_inr]
        rw [wrap_nat (by omega)]
        exact ho
      rcases ih (j + 1) (hs ++ [h]) (by omega) (by omega) (by simp [hlen]) hall' with ⟨e, h1, h2, h3⟩ | ⟨hs', h1, h2⟩
      · exact .inl ⟨e, h1, h2, step _ h3⟩
      · exact .inr ⟨hs', step _ h1, h2⟩
theorem implVerify {p : GProgram} (ha : Args64 p) (hn : p.funcs.length ≤ 1048576) : ∃ r, Ev (fun k => impl_verify k p) r ∧ ((r.1.c = 0 ∧ RightP p ∧ Hts p r.2) ∨ (r.1.c ≠ 0 ∧ ¬ RightP p)) := by
  by_cases c1 : p.funcs.length < 1
  · refine ⟨(⟨0, 0, 1⟩, []), ?_, .inr ⟨by simp, fun h => by have := h.many; omega⟩⟩
    unfold impl_verify impl_verify.a1
    exact Ev.bind (Ev.ct (dt (by omega)) Ev.pure) Ev.pure
  by_cases c2 : p.funcs.length > 6
  · refine ⟨(⟨0, 0, 1⟩, []), ?_, .inr ⟨by simp, fun h => by have := h.many; omega⟩⟩
    unfold impl_verify impl_verify.a1
    exact Ev.bind (Ev.cf (df (by omega)) (Ev.ct (dt (by omega)) Ev.pure)) Ev.pure
  have ha1 : Ev (fun k => impl_verify.a1 k p.funcs ⟨0, 0, 0⟩) (.inr (p.funcs, ⟨0, 0, 0⟩)) := by
    unfold impl_verify.a1
    exact Ev.cf (df (by omega)) (Ev.cf (df (by omega)) Ev.pure)
  rcases implVerLoop ha (by omega) ⟨0, 0, 0⟩ _ 0 [] rfl (by omega) rfl (fun x m hx => by omega) with ⟨e, h1, ⟨m, hm, hno⟩, h3⟩ | ⟨hs', h1, h2, h3⟩
  · refine ⟨(e, []), ?_, .inr ⟨h1, fun h => ?_⟩⟩
    · unfold impl_verify
      exact Ev.bind ha1 (Ev.bind h3 Ev.pure)
    · obtain ⟨g1, hh, g2⟩ := h.all m hm
      exact hno hh ⟨g1, runN_I ha h.normal g2⟩
  · have hN : Normal p := by
      intro m hm
      obtain ⟨x, hx⟩ := List.getElem?_of_mem hm
      obtain ⟨h, -, g, -⟩ := h3 x m hx
      exact g.args
    refine ⟨(⟨0, 0, 0⟩, hs'), ?_, .inl ⟨rfl, ⟨⟨by omega, by omega⟩, fun m hm => ?_⟩, ⟨h2, fun x m hx => ?_⟩⟩⟩
    · unfold impl_verify
      exact Ev.bind ha1 (Ev.bind h1 Ev.pure)
    · obtain ⟨x, hx⟩ := List.getElem?_of_mem hm
      obtain ⟨h, -, g1, g2, -⟩ := h3 x m hx
      exact ⟨g1, h, runI_N hN g2⟩
    · obtain ⟨h, g0, g1, g2, g3⟩ := h3 x m hx
      exact ⟨h, g0, runI_N hN g2, g3⟩
theorem specVerLoop {p : GProgram} (ha : Args64 p) (hl : p.funcs.length ≤ 6) (z : GI3) : ∀ (d j : Nat), p.funcs.length - j = d → j ≤ p.funcs.length →
    (∃ e : GI3, e.c ≠ 0 ∧ (∃ m ∈ p.funcs, ¬ (FormOk p m ∧ ∃ h, RunS p m (some h))) ∧ Ev (fun k => spec_Verify.l2 k p.funcs z (j : Int)) (.inl e)) ∨
    (Ev (fun k => spec_Verify.l2 k p.funcs z (j : Int)) (.inr z) ∧ ∀ (x : Nat) (m : GFunc), j ≤ x → p.funcs[x]? = some m → FormOk p m ∧ ∃ h, RunS p m (some h)) := by
  intro d
  induction d with
  | zero =>
    intro j hd hj
    right
    refine ⟨?_, fun x m hx hm => by have := (List.getElem?_eq_some_iff.1 hm).1; omega⟩
    refine Ev.succ ?_
    simp only [spec_Verify.l2]
    exact Ev.cf (df (by omega)) Ev.pure
  | succ d ih =>
    intro j hd hj
    obtain ⟨m, hm⟩ := list_get (show j < p.funcs.length by omega)
    obtain ⟨o, ho, hiff⟩ := specFunc ha hm
    by_cases c : o.c = 0
    · have step : ∀ o', Ev (fun k => spec_Verify.l2 k p.funcs z ((j + 1 : Nat) : Int)) o' → Ev (fun k => spec_Verify.l2 k p.funcs z (j : Int)) o' := by
        intro o' ho'
        refine Ev.succ ?_
        simp only [spec_Verify.l2]
        refine Ev.ct (dt (by omega)) (Ev.bind ho (Ev.cf (by simp [c]) ?_))
        rw [wrap_nat (by omega)]
        exact ho'
      rcases ih (j + 1) (by omega) (by omega) with ⟨e, h1, h2, h3⟩ | ⟨h1, h2⟩
      · exact .inl ⟨e, h1, h2, step _ h3⟩
      · refine .inr ⟨step _ h1, fun x m' hx hm' => ?_⟩
        by_cases e : x = j
        · subst e
          rw [hm] at hm'
          cases hm'
          exact hiff.1 c
        · exact h2 x m' (by omega) hm'
    · left
      refine ⟨o, c, ⟨m, List.mem_of_getElem? hm, fun h => c (hiff.2 h)⟩, ?_⟩
      refine Ev.succ ?_
      simp only [spec_Verify.l2]
      exact Ev.ct (dt (by omega)) (Ev.bind ho (Ev.ct (by simp [c]) Ev.pure))
theorem specVerify {p : GProgram} (ha : Args64 p) (hn : p.funcs.length ≤ 1048576) : ∃ s, Ev (fun k => spec_Verify k p) s ∧ (s.c = 0 ↔ RightP p) := by
  by_cases c1 : p.funcs.length < 1
  · refine ⟨⟨0, 0, 1⟩, ?_, ⟨fun h => (by cases h), fun h => by have := h.many; omega⟩⟩
    unfold spec_Verify spec_Verify.a1
    exact Ev.bind (Ev.ct (dt (by omega)) Ev.pure) Ev.pure
  by_cases c2 : p.funcs.length > 6
  · refine ⟨⟨0, 0, 1⟩, ?_, ⟨fun h => (by cases h), fun h => by have := h.many; omega⟩⟩
    unfold spec_Verify spec_Verify.a1
    exact Ev.bind (Ev.cf (df (by omega)) (Ev.ct (dt (by omega)) Ev.pure)) Ev.pure
  have ha1 : Ev (fun k => spec_Verify.a1 k p.funcs ⟨0, 0, 0⟩) (.inr (p.funcs, ⟨0, 0, 0⟩)) := by
    unfold spec_Verify.a1
    exact Ev.cf (df (by omega)) (Ev.cf (df (by omega)) Ev.pure)
  rcases specVerLoop ha (by omega) ⟨0, 0, 0⟩ _ 0 rfl (by omega) with ⟨e, h1, ⟨m, hm, hno⟩, h3⟩ | ⟨h1, h2⟩
  · refine ⟨e, ?_, ⟨fun h => absurd h h1, fun h => ?_⟩⟩
    · unfold spec_Verify
      exact Ev.bind ha1 (Ev.bind h3 Ev.pure)
    · obtain ⟨g1, hh, g2⟩ := h.all m hm
      exact absurd ⟨g1, hh, runN_S ha h.normal g2⟩ hno
  · have hN : Normal p := by
      intro m hm
      obtain ⟨x, hx⟩ := List.getElem?_of_mem hm
      exact (h2 x m (by omega) hx).1.args
    refine ⟨⟨0, 0, 0⟩, ?_, ⟨fun _ => ⟨⟨by omega, by omega⟩, fun m hm => ?_⟩, fun _ => rfl⟩⟩
    · unfold spec_Verify
      exact Ev.bind ha1 (Ev.bind h1 Ev.pure)
    · obtain ⟨x, hx⟩ := List.getElem?_of_mem hm
      obtain ⟨g1, h, g2⟩ := h2 x m (by omega) hx
      exact ⟨g1, h, runS_N hN g2⟩
theorem known_ev {p : GProgram} (ha : Args64 p) (hn : p.funcs.length ≤ 1048576) : ∃ hs ok, Ev (fun k => impl_known k p) (⟨p, hs⟩, ok) ∧ (ok = true ↔ RightP p) ∧ (RightP p → Hts p hs) := by
  obtain ⟨r, hr, h⟩ := implVerify ha hn
  refine ⟨r.2, r.1.c == 0, Ev.bind hr Ev.pure, ?_, ?_⟩
  · rcases h with ⟨h1, h2, -⟩ | ⟨h1, h2⟩
    · simp [h1, h2]
    · simp [h1, h2]
  · intro hp
    rcases h with ⟨-, -, h3⟩ | ⟨-, h2⟩
    · exact h3
    · exact absurd hp h2
def bi (l : List UInt8) : List Int := l.map fun c => (c.toNat : Int)
theorem bsL_str (l : List UInt8) : bsL (str l) = bi l := by unfold bsL str bi; rfl
theorem strL_bi (l : List UInt8) : strL (bi l) = str l := by
  unfold strL bytesL bi str
  rw [List.map_map]
  congr 2
  conv => rhs; rw [← List.map_id l]
  apply List.map_congr_left
  intro c _
  show UInt8.ofNat ((c.toNat : Int)).toNat = c
  rw [Int.toNat_natCast]
  exact UInt8.ofNat_toNat
theorem bi_append (a b : List UInt8) : bi a ++ bi b = bi (a ++ b) := by unfold bi; rw [List.map_append]
theorem bi_length (a : List UInt8) : (bi a).length = a.length := by unfold bi; rw [List.length_map]
def opT (a : Int) : List UInt8 := ((spec_OpName 0 a).getD ⟨#[]⟩).data.toList
theorem op_out {a : Int} (h : ¬ (0 ≤ a ∧ a ≤ 38)) (k : Nat) : spec_OpName k a = some (str []) ∧ impl_OpName a = some (str []) := by
  constructor
  · unfold spec_OpName spec_OpName.a1
    by_cases c : a ≥ 1
    · have c5 : ¬ a ≤ 5 := by omega
      have c10 : a ≥ 10 := by omega
      have c38 : ¬ a ≤ 38 := by omega
      simp [c, c5, c10, c38, str]
    · have c10 : ¬ a ≥ 10 := by omega
      simp [c, c10, str]
  · unfold impl_OpName impl_in
    by_cases c : a ≥ 0
    · have c38 : ¬ a ≤ 38 := by omega
      simp [c, c38, str]
    · simp [c, str]
theorem op_both (a : Int) : (∀ k, spec_OpName k a = some (str (opT a))) ∧ impl_OpName a = some (str (opT a)) ∧ (opT a).length ≤ 10 := by
  by_cases h : 0 ≤ a ∧ a ≤ 38
  · have hc := op_cases a
    have key : ∀ b : Int, a = b → (∀ k, spec_OpName k b = some (str (opT b))) → impl_OpName b = some (str (opT b)) → (opT b).length ≤ 10 → (∀ k, spec_OpName k a = some (str (opT a))) ∧ impl_OpName a = some (str (opT a)) ∧ (opT a).length ≤ 10 := by
      intro b e h1 h2 h3; subst e; exact ⟨h1, h2, h3⟩
    have hx : a = 0 ∨ a = 1 ∨ a = 2 ∨ a = 3 ∨ a = 4 ∨ a = 5 ∨ a = 6 ∨ a = 7 ∨ a = 8 ∨ a = 9 ∨ a = 10 ∨ a = 11 ∨ a = 12 ∨ a = 13 ∨ a = 14 ∨ a = 15 ∨ a = 16 ∨ a = 17 ∨ a = 18 ∨ a = 19 ∨ a = 20 ∨ a = 21 ∨ a = 22 ∨ a = 23 ∨ a = 24 ∨ a = 25 ∨ a = 26 ∨ a = 27 ∨ a = 28 ∨ a = 29 ∨ a = 30 ∨ a = 31 ∨ a = 32 ∨ a = 33 ∨ a = 34 ∨ a = 35 ∨ a = 36 ∨ a = 37 ∨ a = 38 := by omega
    rcases hx with e | e | e | e | e | e | e | e | e | e | e | e | e | e | e | e | e | e | e | e | e | e | e | e | e | e | e | e | e | e | e | e | e | e | e | e | e | e | e <;>
      exact key _ e (fun k => rfl) rfl (by decide)
  · obtain ⟨h1, h2⟩ := op_out h 0
    have e : opT a = [] := by unfold opT; rw [h1]; rfl
    rw [e]
    exact ⟨fun k => (op_out h k).1, h2, by simp⟩
def hasB (a : Int) : Bool := decide ((1 ≤ a ∧ a ≤ 3) ∨ (30 ≤ a ∧ a ≤ 32))
theorem specHas (a : Int) : spec_l15Has a = some (hasB a) := by
  have e : spec_l15Has a = some (decide (a ≥ 1) && decide (a ≤ 3) || decide (a ≥ 30) && decide (a ≤ 32)) := by
    unfold spec_l15Has
    cases decide (a ≥ 1) <;> cases decide (a ≤ 3) <;> cases decide (a ≥ 30) <;> rfl
  rw [e]
  congr 1
  unfold hasB
  rw [Bool.eq_iff_iff]
  simp only [Bool.or_eq_true, Bool.and_eq_true, decide_eq_true_eq]
  try (constructor <;> intro h <;> omega)
theorem implHas (a : Int) : impl_hasA a = some (hasB a) := by
  have e : impl_hasA a = some (a == 1 || (a == 2 || (a == 3 || (a == 30 || (a == 31 || a == 32))))) := by
    unfold impl_hasA
    cases (a == 1) <;> cases (a == 2) <;> cases (a == 3) <;> cases (a == 30) <;> cases (a == 31) <;> cases (a == 32) <;> rfl
  rw [e]
  congr 1
  unfold hasB
  rw [Bool.eq_iff_iff]
  simp only [Bool.or_eq_true, beq_iff_eq, decide_eq_true_eq]
  try (constructor <;> intro h <;> omega)
def insT (i : GI2) : List UInt8 := opT i.a ++ ((if hasB i.a then 32 :: Lib.itoa i.b else []) ++ [10])
theorem insT_len (i : GI2) (h : L.i64 i.b) : (insT i).length ≤ 100 := by
  unfold insT
  have h1 := (op_both i.a).2.2
  have h2 : (Lib.itoa i.b).length ≤ 21 := Lib.itoa_length_le i.b h.1 h.2
  split <;> simp <;> omega
def headT (m : GFunc) : List UInt8 := [102, 117, 110, 99, 32] ++ (Lib.itoa m.args ++ (32 :: (Lib.itoa m.locals ++ [10])))
theorem headT_len (m : GFunc) (h1 : L.i64 m.args) (h2 : L.i64 m.locals) : (headT m).length ≤ 100 := by
  unfold headT
  have h3 : (Lib.itoa m.args).length ≤ 21 := Lib.itoa_length_le _ h1.1 h1.2
  have h4 : (Lib.itoa m.locals).length ≤ 21 := Lib.itoa_length_le _ h2.1 h2.2
  simp
  omega
def codeT (l : List GI2) : List UInt8 := l.flatMap insT
theorem codeT_cons (i : GI2) (l : List GI2) : codeT (i :: l) = insT i ++ codeT l := rfl
theorem specCode (fs : List GFunc) (A Lc f : Int) (l : List GI2) (hl : l.length ≤ 60) (hb : ∀ i ∈ l, L.i64 i.b) : ∀ (d x : Nat) (T : List UInt8), l.length - x = d → x ≤ l.length → T.length + 100 * d ≤ 1000000 →
    Ev (fun k => spec_ProgramText.l2 k fs A Lc l (bi T) f (x : Int)) (fs, bi (T ++ codeT (l.drop x)), f) := by
  intro d
  induction d with
  | zero =>
    intro x T hd hx hT
    refine Ev.succ ?_
    simp only [spec_ProgramText.l2]
    refine Ev.cf (df (by omega)) ?_
    rw [List.drop_eq_nil_of_le (by omega)]
    simp only [codeT, List.flatMap_nil, List.append_nil]
    exact Ev.pure
  | succ d ih =>
    intro x T hd hx hT
    obtain ⟨m, hm⟩ := list_get (show x < l.length by omega)
    obtain ⟨o1, o2, o3⟩ := op_both m.a
    have h64 := hb m (List.mem_of_getElem? hm)
    have hlen := insT_len m h64
    have hi : (Lib.itoa m.b).length ≤ 21 := Lib.itoa_length_le _ h64.1 h64.2
    have hdr : l.drop x = m :: l.drop (x + 1) := by
      obtain ⟨h1, h2⟩ := List.getElem?_eq_some_iff.1 hm
      rw [List.drop_eq_getElem_cons h1, h2]
    rw [hdr, codeT_cons, ← List.append_assoc]
    refine Ev.succ ?_
    simp only [spec_ProgramText.l2]
    refine Ev.ct (dt (by omega)) (Ev.idx hm (Ev.bind (Ev.of fun k => o1 k) ?_))
    rw [str_size, bi_length, bsL_str, bi_append]
    refine Ev.gd (by omega) (Ev.bind (Ev.const (specHas m.a)) ?_)
    have hfin := ih (x + 1) (T ++ insT m) (by omega) (by omega) (by rw [List.length_append]; omega)
    cases hh : hasB m.a with
    | true =>
      refine Ev.ct rfl (Ev.bind (dec_ev h64.1 h64.2) ?_)
      have e : (⟨#[32]⟩ : ByteArray) = str [32] := rfl
      rw [e]
      simp only [str_append, str_size, bsL_str, bi_append, bi_length]
      rw [show ([10] : List Int) = bi [10] from rfl]
      simp only [bi_append]
      refine Ev.gd (by simp; omega) (Ev.gd (by simp; omega) (Ev.gd (by simp; omega) ?_))
      rw [wrap_nat (by omega)]
      have e2 : T ++ opT m.a ++ ([32] ++ Lib.itoa m.b) ++ [10] = T ++ insT m := by unfold insT; rw [hh, if_pos rfl]; simp
      rw [e2]
      exact hfin
    | false =>
      refine Ev.cf rfl ?_
      rw [bi_length, show ([10] : List Int) = bi [10] from rfl, bi_append]
      refine Ev.gd (by simp; omega) ?_
      rw [wrap_nat (by omega)]
      have e2 : T ++ opT m.a ++ [10] = T ++ insT m := by unfold insT; rw [hh]; simp
      rw [e2]
      exact hfin
theorem implCode (fs : List GFunc) (n f : Int) (l : List GI2) (hl : l.length ≤ 60) (hb : ∀ i ∈ l, L.i64 i.b) : ∀ (d x : Nat) (T : List UInt8), l.length - x = d → x ≤ l.length → T.length + 100 * d ≤ 1000000 →
    Ev (fun k => impl_ProgramText.l2 k (str T) fs n f l (l.length : Int) (x : Int)) (str (T ++ codeT (l.drop x)), fs, n, f) := by
  intro d
  induction d with
  | zero =>
    intro x T hd hx hT
    refine Ev.succ ?_
    simp only [impl_ProgramText.l2]
    refine Ev.cf (df (by omega)) ?_
    rw [List.drop_eq_nil_of_le (by omega)]
    simp only [codeT, List.flatMap_nil, List.append_nil]
    exact Ev.pure
  | succ d ih =>
    intro x T hd hx hT
    obtain ⟨m, hm⟩ := list_get (show x < l.length by omega)
    obtain ⟨o1, o2, o3⟩ := op_both m.a
    have h64 := hb m (List.mem_of_getElem? hm)
    have hlen := insT_len m h64
    have hi : (Lib.itoa m.b).length ≤ 21 := Lib.itoa_length_le _ h64.1 h64.2
    have hdr : l.drop x = m :: l.drop (x + 1) := by
      obtain ⟨h1, h2⟩ := List.getElem?_eq_some_iff.1 hm
      rw [List.drop_eq_getElem_cons h1, h2]
    rw [hdr, codeT_cons, ← List.append_assoc]
    refine Ev.succ ?_
    simp only [impl_ProgramText.l2]
    refine Ev.ct (dt (by omega)) (Ev.idx hm (Ev.bind (Ev.const o2) ?_))
    rw [str_size, str_size, str_append]
    refine Ev.gd (by omega) (Ev.bind (Ev.const (implHas m.a)) ?_)
    have hfin := ih (x + 1) (T ++ insT m) (by omega) (by omega) (by rw [List.length_append]; omega)
    rw [show (⟨#[10]⟩ : ByteArray) = str [10] from rfl]
    cases hh : hasB m.a with
    | true =>
      refine Ev.ct rfl (Ev.bind (Ev.const (digits_eq h64.1 h64.2)) ?_)
      rw [show (⟨#[32]⟩ : ByteArray) = str [32] from rfl]
      simp only [str_append, str_size]
      refine Ev.gd (by simp; omega) (Ev.gd (by simp; omega) (Ev.gd (by simp; omega) ?_))
      rw [wrap_nat (by omega)]
      have e2 : T ++ opT m.a ++ ([32] ++ Lib.itoa m.b) ++ [10] = T ++ insT m := by unfold insT; rw [hh, if_pos rfl]; simp
      rw [e2]
      exact hfin
    | false =>
      refine Ev.cf rfl ?_
      simp only [str_append, str_size]
      refine Ev.gd (by simp; omega) ?_
      rw [wrap_nat (by omega)]
      have e2 : T ++ opT m.a ++ [10] = T ++ insT m := by unfold insT; rw [hh]; simp
      rw [e2]
      exact hfin
def funcT (m : GFunc) : List UInt8 := headT m ++ codeT m.code
theorem codeT_len : ∀ (l : List GI2), (∀ i ∈ l, L.i64 i.b) → (codeT l).length ≤ 100 * l.length
  | [], _ => by simp [codeT]
  | i :: l, h => by
    rw [codeT_cons, List.length_append, List.length_cons]
    have := codeT_len l fun j hj => h j (by simp [hj])
    have := insT_len i (h i (by simp))
    omega
structure TextOk (m : GFunc) : Prop where
  code : m.code.length ≤ 60
  args : L.i64 m.args
  locals : L.i64 m.locals
  ins : ∀ i ∈ m.code, L.i64 i.b
theorem funcT_len {m : GFunc} (h : TextOk m) : (funcT m).length ≤ 6100 := by
  unfold funcT
  have h1 := headT_len m h.args h.locals
  have h2 := codeT_len m.code h.ins
  have h3 := h.code
  rw [List.length_append]
  omega
def progT (l : List GFunc) : List UInt8 := l.flatMap funcT
theorem specFuncs (l : List GFunc) (hl : l.length ≤ 6) (h : ∀ m ∈ l, TextOk m) : ∀ (d x : Nat) (T : List UInt8), l.length - x = d → x ≤ l.length → T.length + 6100 * d ≤ 900000 →
    Ev (fun k => spec_ProgramText.l1 k l (bi T) (x : Int)) (bi (T ++ progT (l.drop x))) := by
  intro d
  induction d with
  | zero =>
    intro x T hd hx hT
    refine Ev.succ ?_
    simp only [spec_ProgramText.l1]
    refine Ev.cf (df (by omega)) ?_
    rw [List.drop_eq_nil_of_le (by omega)]
    simp only [progT, List.flatMap_nil, List.append_nil]
    exact Ev.pure
  | succ d ih =>
    intro x T hd hx hT
    obtain ⟨m, hm⟩ := list_get (show x < l.length by omega)
    have ho := h m (List.mem_of_getElem? hm)
    have hfl := funcT_len ho
    have hhl := headT_len m ho.args ho.locals
    have ha : (Lib.itoa m.args).length ≤ 21 := Lib.itoa_length_le _ ho.args.1 ho.args.2
    have hlo : (Lib.itoa m.locals).length ≤ 21 := Lib.itoa_length_le _ ho.locals.1 ho.locals.2
    have hdr : l.drop x = m :: l.drop (x + 1) := by
      obtain ⟨h1, h2⟩ := List.getElem?_eq_some_iff.1 hm
      rw [List.drop_eq_getElem_cons h1, h2]
    rw [hdr, show progT (m :: l.drop (x + 1)) = funcT m ++ progT (l.drop (x + 1)) from rfl, ← List.append_assoc]
    refine Ev.succ ?_
    simp only [spec_ProgramText.l1]
    refine Ev.ct (dt (by omega)) (Ev.idx hm (Ev.bind (dec_ev ho.args.1 ho.args.2) ?_))
    rw [show (⟨#[102, 117, 110, 99, 32]⟩ : ByteArray) = str [102, 117, 110, 99, 32] from rfl, show (⟨#[32]⟩ : ByteArray) = str [32] from rfl, show (⟨#[10]⟩ : ByteArray) = str [10] from rfl]
    simp only [str_append, str_size]
    refine Ev.gd (by simp; omega) (Ev.gd (by simp; omega) (Ev.bind (dec_ev ho.locals.1 ho.locals.2) ?_))
    simp only [str_append, str_size, bsL_str, bi_append, bi_length]
    have e1 : [102, 117, 110, 99, 32] ++ Lib.itoa m.args ++ [32] ++ Lib.itoa m.locals ++ [10] = headT m := by unfold headT; simp
    rw [e1]
    refine Ev.gd (by simp; omega) (Ev.gd (by simp; omega) (Ev.gd (by omega) ?_))
    refine Ev.bind (specCode l m.args m.locals (x : Int) m.code ho.code ho.ins _ 0 (T ++ headT m) rfl (by omega) (by have := ho.code; rw [List.length_append]; omega)) ?_
    dsimp only
    rw [List.drop_zero, List.append_assoc, show headT m ++ codeT m.code = funcT m from rfl, wrap_nat (by omega)]
    exact ih (x + 1) (T ++ funcT m) (by omega) (by omega) (by rw [List.length_append]; omega)
theorem implFuncs (l : List GFunc) (hl : l.length ≤ 6) (h : ∀ m ∈ l, TextOk m) : ∀ (d x : Nat) (T : List UInt8), l.length - x = d → x ≤ l.length → T.length + 6100 * d ≤ 900000 →
    Ev (fun k => impl_ProgramText.l1 k (str T) l (l.length : Int) (x : Int)) (str (T ++ progT (l.drop x))) := by
  intro d
  induction d with
  | zero =>
    intro x T hd hx hT
    refine Ev.succ ?_
    simp only [impl_ProgramText.l1]
    refine Ev.cf (df (by omega)) ?_
    rw [List.drop_eq_nil_of_le (by omega)]
    simp only [progT, List.flatMap_nil, List.append_nil]
    exact Ev.pure
  | succ d ih =>
    intro x T hd hx hT
    obtain ⟨m, hm⟩ := list_get (show x < l.length by omega)
    have ho := h m (List.mem_of_getElem? hm)
    have hfl := funcT_len ho
    have hhl := headT_len m ho.args ho.locals
    have ha : (Lib.itoa m.args).length ≤ 21 := Lib.itoa_length_le _ ho.args.1 ho.args.2
    have hlo : (Lib.itoa m.locals).length ≤ 21 := Lib.itoa_length_le _ ho.locals.1 ho.locals.2
    have hdr : l.drop x = m :: l.drop (x + 1) := by
      obtain ⟨h1, h2⟩ := List.getElem?_eq_some_iff.1 hm
      rw [List.drop_eq_getElem_cons h1, h2]
    rw [hdr, show progT (m :: l.drop (x + 1)) = funcT m ++ progT (l.drop (x + 1)) from rfl, ← List.append_assoc]
    refine Ev.succ ?_
    simp only [impl_ProgramText.l1]
    refine Ev.ct (dt (by omega)) (Ev.idx hm (Ev.bind (Ev.const (digits_eq ho.args.1 ho.args.2)) ?_))
    rw [show (⟨#[102, 117, 110, 99, 32]⟩ : ByteArray) = str [102, 117, 110, 99, 32] from rfl, show (⟨#[32]⟩ : ByteArray) = str [32] from rfl, show (⟨#[10]⟩ : ByteArray) = str [10] from rfl]
    simp only [str_append, str_size]
    refine Ev.gd (by simp; omega) (Ev.gd (by simp; omega) (Ev.bind (Ev.const (digits_eq ho.locals.1 ho.locals.2)) ?_))
    simp only [str_append, str_size]
    have e1 : [102, 117, 110, 99, 32] ++ Lib.itoa m.args ++ [32] ++ Lib.itoa m.locals ++ [10] = headT m := by unfold headT; simp
    rw [e1]
    refine Ev.gd (by simp; omega) (Ev.gd (by simp; omega) (Ev.gd (by omega) ?_))
    refine Ev.bind (implCode l (l.length : Int) (x : Int) m.code ho.code ho.ins _ 0 (T ++ headT m) rfl (by omega) (by have := ho.code; rw [List.length_append]; omega)) ?_
    dsimp only
    rw [List.drop_zero, List.append_assoc, show headT m ++ codeT m.code = funcT m from rfl, wrap_nat (by omega)]
    exact ih (x + 1) (T ++ funcT m) (by omega) (by omega) (by rw [List.length_append]; omega)
theorem text_both {p : GProgram} (ha : Args64 p) (hn : p.funcs.length ≤ 1048576) (hb : ∀ m ∈ p.funcs, ∀ i ∈ m.code, L.i64 i.b) : ∃ T, Ev (fun k => spec_ProgramText k p) (str T) ∧ Ev (fun k => impl_ProgramText k p) (str T) := by
  obtain ⟨hs, ok, hk, hok, hts⟩ := known_ev ha hn
  obtain ⟨v, hv, hv2⟩ := specVerify ha hn
  have hr : Ev (fun k => spec_l04Right k p) (v.c == 0) := by
    unfold spec_l04Right
    exact Ev.bind hv (Ev.const rfl)
  by_cases hp : RightP p
  · have e1 : ok = true := hok.2 hp
    subst e1
    have e2 : (v.c == 0) = true := by rw [hv2.2 hp]; rfl
    rw [e2] at hr
    have h6 := hp.many
    have hT : ∀ m ∈ p.funcs, TextOk m := fun m hm => by
      have hF := (hp.all m hm).1
      have h1 := hF.args
      have h2 := hF.locals
      have h3 := hF.code
      exact ⟨by omega, ⟨by omega, by omega⟩, ⟨by omega, by omega⟩, hb m hm⟩
    refine ⟨progT p.funcs, ?_, ?_⟩
    · unfold spec_ProgramText
      refine Ev.bind hr (Ev.cf rfl (Ev.bind (specFuncs p.funcs h6.2 hT _ 0 [] rfl (by omega) (by simp; omega)) (Ev.const ?_)))
      rw [List.drop_zero, List.nil_append, strL_bi]
    · unfold impl_ProgramText
      refine Ev.bind hk (Ev.cf rfl (Ev.bind (implFuncs p.funcs h6.2 hT _ 0 [] rfl (by omega) (by simp; omega)) (Ev.const ?_)))
      rw [List.drop_zero, List.nil_append]
  · have e1 : ok = false := by
      cases ok with
      | false => rfl
      | true => exact absurd (hok.1 rfl) hp
    subst e1
    have e2 : (v.c == 0) = false := by
      have : ¬ v.c = 0 := fun h => hp (hv2.1 h)
      simp [this]
    rw [e2] at hr
    refine ⟨[], ?_, ?_⟩
    · unfold spec_ProgramText
      exact Ev.bind hr (Ev.ct rfl (Ev.const rfl))
    · unfold impl_ProgramText
      exact Ev.bind hk (Ev.ct rfl (Ev.const rfl))
theorem law_progtext (p : GProgram) (ha : Args64 p) (h1 : p.funcs.length ≤ 9223372036854775807) (h2 : ∀ m ∈ p.funcs, m.code.length ≤ 9223372036854775807) (hb : ∀ m ∈ p.funcs, ∀ i ∈ m.code, L.i64 i.b) : Ev (fun k => laws_FnExactProgramText k p) true := by
  unfold laws_FnExactProgramText
  obtain ⟨t, ht, hcase⟩ := szProgram_ev p h1 h2
  rcases hcase with h | ⟨h, hS⟩
  · exact Ev.bind ht (Ev.ct (dt h) Ev.pure)
  obtain ⟨T, q1, q2⟩ := text_both ha hS.funcs hb
  have tp := toProgram_ev hS
  exact Ev.bind ht (Ev.cf (df (by omega)) (Ev.bind tp (Ev.bind q1 (Ev.bind tp (Ev.bind q2 (Ev.cf (by simp) (Ev.bind tp (Ev.bind (eqProgram_ev hS) (Ev.cf rfl Ev.pure)))))))))
end Go.Proofs.YtdlaplgofgklnaaDoor