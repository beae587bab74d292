/- WHAT IS PROVED: an abstract walker over the model, what some functions of the program answer, and laws of these answers. Conditions: none. -/
import Derived.Test.YtfdgjiifeijjfaaGreatDoorKe14
import Derived.Lib.ItoaMem
import Derived.Lib.ItoaLen
namespace Go.Proofs.YtfdgjiifeijjfaaGreatDoor.L
theorem list_get {α : Type} {l : List α} {k : Nat} (h : k < l.length) : ∃ m, l[k]? = some m := ⟨l[k], List.getElem?_eq_getElem h⟩
theorem wrapS {k : Nat} (h : k < 4611686018427387904) : IntKind.i64.wrap ((k : Int) + 1) = ((k + 1 : Nat) : Int) := by
  rw [IntKind.wrap_i64]; omega
theorem wrapIn {x : Int} (h1 : -9223372036854775808 ≤ x) (h2 : x ≤ 9223372036854775807) : IntKind.i64.wrap x = x := by
  rw [IntKind.wrap_i64]; omega
end Go.Proofs.YtfdgjiifeijjfaaGreatDoor.L
namespace Go.Proofs.YtfdgjiifeijjfaaGreatDoor
open Go.Proofs Go.Proofs.YtfdgjiifeijjfaaGreatDoor.L
set_option linter.unusedVariables false
set_option linter.unusedSimpArgs false
def Ev {α : Type} (f : Nat → Option α) (v : α) : Prop := ∃ k0, ∀ k, k0 ≤ k → f k = some v
theorem Ev.pure {α : Type} {v : α} : Ev (fun _ => some v) v := ⟨0, fun _ _ => rfl⟩
theorem Ev.of {α : Type} {f : Nat → Option α} {v : α} (h : ∀ k, f k = some v) : Ev f v := ⟨0, fun k _ => h k⟩
theorem Ev.const {α : Type} {x : Option α} {v : α} (h : x = some v) : Ev (fun _ => x) v := ⟨0, fun _ _ => h⟩
theorem Ev.bind {α β : Type} {f : Nat → Option α} {g : Nat → α → Option β} {a : α} {v : β} (h1 : Ev f a) (h2 : Ev (fun k => g k a) v) : Ev (fun k => (f k).bind (g k)) v := by
  obtain ⟨k1, h1⟩ := h1
  obtain ⟨k2, h2⟩ := h2
  refine ⟨max k1 k2, fun k hk => ?_⟩
  show (f k).bind (g k) = some v
  rw [h1 k (by omega)]
  exact h2 k (by omega)
theorem Ev.succ {α : Type} {f : Nat → Option α} {v : α} (h : Ev (fun k => f (k + 1)) v) : Ev f v := by
  obtain ⟨k0, h⟩ := h
  refine ⟨k0 + 1, fun k hk => ?_⟩
  obtain ⟨m, rfl⟩ : ∃ m, k = m + 1 := ⟨k - 1, by omega⟩
  exact h m (by omega)
theorem Ev.ex {α : Type} {f : Nat → Option α} {v : α} (h : Ev f v) : ∃ k, f k = some v := by
  obtain ⟨k0, h⟩ := h
  exact ⟨k0, h k0 (Nat.le_refl _)⟩
theorem Ev.gd {α : Type} {p : Prop} [Decidable p] {f : Nat → Option α} {v : α} (hp : p) (h : Ev f v) : Ev (fun k => L.gd p (f k)) v := by
  obtain ⟨k0, h⟩ := h
  refine ⟨k0, fun k hk => ?_⟩
  show L.gd p (f k) = some v
  unfold L.gd
  rw [if_pos hp]
  exact h k hk
theorem Ev.ct {α : Type} {b : Bool} {f g : Nat → Option α} {v : α} (hb : b = true) (h : Ev f v) : Ev (fun k => cond b (f k) (g k)) v := by subst hb; exact h
theorem Ev.cf {α : Type} {b : Bool} {f g : Nat → Option α} {v : α} (hb : b = false) (h : Ev g v) : Ev (fun k => cond b (f k) (g k)) v := by subst hb; exact h
theorem Ev.idx {α β : Type} {l : List α} {i : Nat} {m : α} {g : Nat → α → Option β} {v : β} (h : l[i]? = some m) (h2 : Ev (fun k => g k m) v) : Ev (fun k => (L.idx l (i : Int)).bind (g k)) v := by
  refine Ev.bind (a := m) (Ev.const ?_) h2
  unfold L.idx
  have := (List.getElem?_eq_some_iff.1 h).1
  rw [if_pos ⟨by omega, by omega⟩]
  simpa using h
theorem idx_nat {α : Type} {l : List α} {i : Nat} : L.idx l (i : Int) = l[i]? := by
  unfold L.idx
  split
  · simp
  · rename_i h
    have : l.length ≤ i := by omega
    rw [List.getElem?_eq_none this]
theorem idx_of {α : Type} {l : List α} {i : Int} (h0 : 0 ≤ i) : L.idx l i = l[i.toNat]? := by
  obtain ⟨n, rfl⟩ := Int.eq_ofNat_of_zero_le h0
  rw [idx_nat]; rfl
theorem wrap_nat {k : Nat} (h : k < 4611686018427387904) : IntKind.i64.wrap ((k : Int) + 1) = ((k + 1 : Nat) : Int) := wrapS h
theorem wrap_id {x : Int} (h1 : -9223372036854775808 ≤ x) (h2 : x ≤ 9223372036854775807) : IntKind.i64.wrap x = x := wrapIn h1 h2
theorem dt {p : Prop} [Decidable p] (h : p) : decide p = true := decide_eq_true h
theorem df {p : Prop} [Decidable p] (h : ¬ p) : decide p = false := decide_eq_false h
theorem take_set_next {α : Type} {acc l : List α} {i : Nat} {m : α} (hl : acc.length = l.length) (h : acc.take i = l.take i) (hm : l[i]? = some m) : (acc.set i m).take (i + 1) = l.take (i + 1) := by
  have hi := (List.getElem?_eq_some_iff.1 hm).1
  rw [List.take_add_one, List.take_add_one, List.take_set_of_le (Nat.le_refl i), h, List.getElem?_set_self (by omega), hm]
theorem toInsS_l (l : List GI2) (hn : l.length < 4611686018427387904) : ∀ (d i : Nat) (acc : List GI2), l.length - i = d → i ≤ l.length → acc.length = l.length → acc.take i = l.take i →
    Ev (fun k => laws_toInsS.l1 k acc l (i : Int)) l := by
  intro d
  induction d with
  | zero =>
    intro i acc hd hi ha ht
    have : i = l.length := by omega
    subst this
    refine Ev.succ ?_
    simp only [laws_toInsS.l1]
    refine Ev.cf (df (by omega)) ?_
    rw [List.take_of_length_le (by omega), List.take_of_length_le (by omega)] at ht
    rw [ht]; exact Ev.pure
  | succ d ih =>
    intro i acc hd hi ha ht
    obtain ⟨m, hm⟩ := list_get (show i < l.length by omega)
    obtain ⟨m', hm'⟩ := list_get (show i < acc.length by omega)
    refine Ev.succ ?_
    simp only [laws_toInsS.l1, laws_toIns]
    refine Ev.ct (dt (by omega)) (Ev.idx hm (Ev.bind Ev.pure (Ev.idx hm' ?_)))
    rw [wrap_nat (by omega), Int.toNat_natCast]
    exact ih (i + 1) _ (by omega) (by omega) (by simpa using ha) (take_set_next ha ht hm)
theorem toInsS_ev {l : List GI2} (h : l.length * 16 ≤ 35184372088832) : Ev (fun k => laws_toInsS k l) l := by
  unfold laws_toInsS
  refine Ev.gd ⟨by omega, by omega, by omega⟩ (Ev.bind (toInsS_l l (by omega) _ 0 _ rfl (by omega) (by simp) (by simp)) Ev.pure)
theorem toFunc_ev {f : GFunc} (h : f.code.length * 16 ≤ 35184372088832) : Ev (fun k => laws_toFunc k f) f :=
  Ev.bind (toInsS_ev h) Ev.pure
theorem toFuncS_l (l : List GFunc) (hn : l.length < 4611686018427387904) (hc : ∀ f ∈ l, f.code.length * 16 ≤ 35184372088832) : ∀ (d i : Nat) (acc : List GFunc), l.length - i = d → i ≤ l.length → acc.length = l.length → acc.take i = l.take i →
    Ev (fun k => laws_toFuncS.l1 k acc l (i : Int)) l := by
  intro d
  induction d with
  | zero =>
    intro i acc hd hi ha ht
    have : i = l.length := by omega
    subst this
    refine Ev.succ ?_
    simp only [laws_toFuncS.l1]
    refine Ev.cf (df (by omega)) ?_
    rw [List.take_of_length_le (by omega), List.take_of_length_le (by omega)] at ht
    rw [ht]; exact Ev.pure
  | succ d ih =>
    intro i acc hd hi ha ht
    obtain ⟨m, hm⟩ := list_get (show i < l.length by omega)
    obtain ⟨m', hm'⟩ := list_get (show i < acc.length by omega)
    refine Ev.succ ?_
    simp only [laws_toFuncS.l1]
    refine Ev.ct (dt (by omega)) (Ev.idx hm (Ev.bind (toFunc_ev (hc m (List.mem_of_getElem? hm))) (Ev.idx hm' ?_)))
    rw [wrap_nat (by omega), Int.toNat_natCast]
    exact ih (i + 1) _ (by omega) (by omega) (by simpa using ha) (take_set_next ha ht hm)
structure Small (p : GProgram) : Prop where
  funcs : p.funcs.length ≤ 1048576
  code : ∀ f ∈ p.funcs, f.code.length ≤ 1048576
theorem toProgram_ev {p : GProgram} (h : Small p) : Ev (fun k => laws_toProgram k p) p := by
  have h1 := h.funcs
  refine Ev.bind (a := p.funcs) ?_ Ev.pure
  unfold laws_toFuncS
  refine Ev.gd ⟨by omega, by omega, by omega⟩ (Ev.bind (toFuncS_l p.funcs (by omega) (fun f hf => by have := h.code f hf; omega) _ 0 _ rfl (by omega) (by simp) (by simp)) Ev.pure)
theorem szInsS_ev (l : List GI2) (n : Int) (h0 : 0 ≤ n) (h1 : n ≤ 1048576) (h : l.length ≤ 9223372036854775807) : laws_szInsS l n = some (if n < l.length then -1 else n - l.length) := by
  unfold laws_szInsS
  rw [wrap_id (by omega) (by omega)]
  by_cases c : n < l.length
  · rw [dt (by omega), if_pos c]; rfl
  · rw [df (by omega), if_neg c]; rfl
theorem szFunc_ev (f : GFunc) (n : Int) (h0 : 0 ≤ n) (h1 : n ≤ 1048576) (h : f.code.length ≤ 9223372036854775807) : laws_szFunc f n = some (if n < f.code.length then -1 else n - f.code.length) := by
  unfold laws_szFunc
  rw [szInsS_ev _ _ h0 h1 h]
  show cond _ _ _ = _
  by_cases c : n < f.code.length
  · rw [if_pos c]; rfl
  · rw [if_neg c, df (by omega)]; rfl
theorem szFuncS_l (l : List GFunc) (hn : l.length ≤ 1048576) (hc : ∀ f ∈ l, f.code.length ≤ 9223372036854775807) : ∀ (d i : Nat) (n : Int), l.length - i = d → i ≤ l.length → 0 ≤ n → n ≤ 1048576 →
    ∃ r, Ev (fun k => laws_szFuncS.l1 k l n (i : Int)) r ∧ ((∃ x, r = .inl x ∧ x = -1) ∨ ∃ x, r = .inr x ∧ 0 ≤ x ∧ x ≤ n ∧ ∀ j f, i ≤ j → l[j]? = some f → f.code.length ≤ n) := by
  intro d
  induction d with
  | zero =>
    intro i n hd hi h0 h1
    refine ⟨.inr n, ?_, .inr ⟨n, rfl, h0, Int.le_refl _, fun j f hj hf => ?_⟩⟩
    · refine Ev.succ ?_
      simp only [laws_szFuncS.l1]
      exact Ev.cf (df (by omega)) Ev.pure
    · have := (List.getElem?_eq_some_iff.1 hf).1
      omega
  | succ d ih =>
    intro i n hd hi h0 h1
    obtain ⟨m, hm⟩ := list_get (show i < l.length by omega)
    by_cases c : n < m.code.length
    · refine ⟨.inl (-1), ?_, .inl ⟨_, rfl, rfl⟩⟩
      refine Ev.succ ?_
      simp only [laws_szFuncS.l1]
      refine Ev.ct (dt (by omega)) (Ev.idx hm ?_)
      simp only [szFunc_ev m n h0 h1 (hc m (List.mem_of_getElem? hm)), if_pos c, Option.bind_some]
      exact Ev.ct (dt (by omega)) Ev.pure
    · obtain ⟨r, hr, h⟩ := ih (i + 1) (n - m.code.length) (by omega) (by omega) (by omega) (by omega)
      refine ⟨r, ?_, ?_⟩
      · refine Ev.succ ?_
        simp only [laws_szFuncS.l1]
        refine Ev.ct (dt (by omega)) (Ev.idx hm ?_)
        simp only [szFunc_ev m n h0 h1 (hc m (List.mem_of_getElem? hm)), if_neg c, Option.bind_some]
        refine Ev.cf (df (by omega)) ?_
        rw [wrap_nat (by omega)]
        exact hr
      · rcases h with h | ⟨x, rfl, h2, h3, h4⟩
        · exact .inl h
        · refine .inr ⟨x, rfl, h2, by omega, fun j f hj hf => ?_⟩
          rcases Nat.lt_or_ge i j with hij | hij
          · have := h4 j f hij hf; omega
          · have : j = i := by omega
            subst this
            rw [hm] at hf
            cases hf
            omega
theorem eqIns_same (x : GI2) : laws_eqIns x x = some true := by simp [laws_eqIns]
theorem eqInsS_l (l : List GI2) (hn : l.length < 4611686018427387904) : ∀ (d i : Nat), l.length - i = d → i ≤ l.length → Ev (fun k => laws_eqInsS.l1 k l l (i : Int)) (.inr ()) := by
  intro d
  induction d with
  | zero =>
    intro i hd hi
    refine Ev.succ ?_
    simp only [laws_eqInsS.l1]
    exact Ev.cf (df (by omega)) Ev.pure
  | succ d ih =>
    intro i hd hi
    obtain ⟨m, hm⟩ := list_get (show i < l.length by omega)
    refine Ev.succ ?_
    simp only [laws_eqInsS.l1, eqIns_same]
    refine Ev.ct (dt (by omega)) (Ev.idx hm (Ev.idx hm (Ev.bind (eqIns_same m ▸ Ev.pure) (Ev.cf (by simp) ?_))))
    rw [wrap_nat (by omega)]
    exact ih (i + 1) (by omega) (by omega)
theorem eqInsS_ev (l : List GI2) (hn : l.length < 4611686018427387904) : Ev (fun k => laws_eqInsS k l l) true := by
  unfold laws_eqInsS
  refine Ev.cf (by simp) (Ev.bind (eqInsS_l l hn _ 0 rfl (by omega)) Ev.pure)
theorem eqFunc_ev (f : GFunc) (hn : f.code.length < 4611686018427387904) : Ev (fun k => laws_eqFunc k f f) true := by
  unfold laws_eqFunc
  refine Ev.cf (by simp) (Ev.cf (by simp) (Ev.bind (eqInsS_ev _ hn) (Ev.cf (by simp) Ev.pure)))
theorem eqFuncS_l (l : List GFunc) (hn : l.length < 4611686018427387904) (hc : ∀ f ∈ l, f.code.length < 4611686018427387904) : ∀ (d i : Nat), l.length - i = d → i ≤ l.length → Ev (fun k => laws_eqFuncS.l1 k l l (i : Int)) (.inr ()) := by
  intro d
  induction d with
  | zero =>
    intro i hd hi
    refine Ev.succ ?_
    simp only [laws_eqFuncS.l1]
    exact Ev.cf (df (by omega)) Ev.pure
  | succ d ih =>
    intro i hd hi
    obtain ⟨m, hm⟩ := list_get (show i < l.length by omega)
    refine Ev.succ ?_
    simp only [laws_eqFuncS.l1]
    refine Ev.ct (dt (by omega)) (Ev.idx hm (Ev.idx hm (Ev.bind (eqFunc_ev m (hc m (List.mem_of_getElem? hm))) (Ev.cf (by simp) ?_))))
    rw [wrap_nat (by omega)]
    exact ih (i + 1) (by omega) (by omega)
theorem eqProgram_ev {p : GProgram} (h : Small p) : Ev (fun k => laws_eqProgram k p p) true := by
  have h1 := h.funcs
  refine Ev.bind (a := true) ?_ (Ev.cf (by simp) Ev.pure)
  unfold laws_eqFuncS
  refine Ev.cf (by simp) (Ev.bind (eqFuncS_l p.funcs (by omega) (fun f hf => by have := h.code f hf; omega) _ 0 rfl (by omega)) Ev.pure)
def takesL (p : GProgram) (i : GI2) : Int :=
  if (10 ≤ i.a ∧ i.a ≤ 23) ∨ i.a = 35 then 2 else if i.a = 36 then 3 else if i.a = 32 then (if 0 ≤ i.b then match p.funcs[i.b.toNat]? with | some f => f.args | none => 0 else 0)
  else if 24 ≤ i.a ∧ i.a ≤ 29 then 1 else if i.a = 3 ∨ i.a = 4 ∨ i.a = 5 ∨ i.a = 31 ∨ i.a = 33 ∨ i.a = 34 ∨ i.a = 37 ∨ i.a = 38 then 1 else 0
def putsL (i : GI2) : Int :=
  if i.a = 4 then 2 else if i.a = 1 ∨ i.a = 2 ∨ i.a = 32 ∨ i.a = 34 ∨ i.a = 35 ∨ i.a = 37 ∨ (10 ≤ i.a ∧ i.a ≤ 29) then 1 else 0
def nextL (i : GI2) (x : Int) : List Int := if i.a = 33 then [] else if i.a = 30 then [i.b] else if i.a = 31 then [x + 1, i.b] else [x + 1]
theorem putsL_range (i : GI2) : 0 ≤ putsL i ∧ putsL i ≤ 2 := by unfold putsL; split <;> (try split) <;> omega
theorem op_cases (a : Int) : (a = 0 ∨ a = 1 ∨ a = 2 ∨ a = 3 ∨ a = 4 ∨ a = 5 ∨ a = 6 ∨ a = 7 ∨ a = 8 ∨ a = 9 ∨ a = 10 ∨ a = 11 ∨ a = 12 ∨ a = 13 ∨ a = 14 ∨ a = 15 ∨ a = 16 ∨ a = 17 ∨ a = 18 ∨ a = 19 ∨ a = 20 ∨ a = 21 ∨ a = 22 ∨ a = 23 ∨ a = 24 ∨ a = 25 ∨ a = 26 ∨ a = 27 ∨ a = 28 ∨ a = 29 ∨ a = 30 ∨ a = 31 ∨ a = 32 ∨ a = 33 ∨ a = 34 ∨ a = 35 ∨ a = 36 ∨ a = 37 ∨ a = 38) ∨ (a < 0 ∨ 38 < a) := by omega
theorem specTakes (k : Nat) (p : GProgram) (i : GI2) : spec_Takes k p i = some (takesL p i) := by
  obtain ⟨fs⟩ := p
  obtain ⟨a, b⟩ := i
  rcases op_cases a with (rfl | rfl | rfl | rfl | rfl | rfl | rfl | rfl | rfl | rfl | rfl | rfl | rfl | rfl | rfl | rfl | rfl | rfl | rfl | rfl | rfl | rfl | rfl | rfl | rfl | rfl | rfl | rfl | rfl | rfl | rfl | rfl | rfl | rfl | rfl | rfl | rfl | rfl | rfl) | h
  all_goals (try rfl)
  · unfold spec_Takes spec_Takes.a1 spec_Takes.a2 spec_l03Binary spec_l03Unary takesL
    by_cases hb : b < 0
    · simp [hb, show ¬ 0 ≤ b by omega]
    · by_cases hc : (fs.length : Int) ≤ b
      · have : fs[b.toNat]? = none := List.getElem?_eq_none (by omega)
        simp [hb, hc, show 0 ≤ b by omega, this]
      · obtain ⟨m, hm⟩ := list_get (show b.toNat < fs.length by omega)
        simp [hb, hc, show 0 ≤ b by omega, hm, idx_of]
  · have e : ∀ c : Int, 0 ≤ c → c ≤ 38 → (a == c) = false := by intro c h1 h2; simp; omega
    have e2 : ∀ c : Int, 0 ≤ c → c ≤ 38 → ¬ a = c := by intro c h1 h2; omega
    have r1 : ¬ (10 ≤ a ∧ a ≤ 23) := by omega
    have r2 : ¬ (24 ≤ a ∧ a ≤ 29) := by omega
    unfold spec_Takes spec_Takes.a1 spec_Takes.a2 spec_l03Binary spec_l03Unary takesL
    rcases h with h | h
    · simp [e, e2, show ¬ 10 ≤ a by omega, show ¬ 24 ≤ a by omega]
    · simp [e, e2, show 10 ≤ a by omega, show 24 ≤ a by omega, show ¬ a ≤ 23 by omega, show ¬ a ≤ 29 by omega]
theorem implTakes (k : Nat) (p : GProgram) (i : GI2) : impl_Takes k p i = some (takesL p i) := by
  obtain ⟨fs⟩ := p
  obtain ⟨a, b⟩ := i
  rcases op_cases a with (rfl | rfl | rfl | rfl | rfl | rfl | rfl | rfl | rfl | rfl | rfl | rfl | rfl | rfl | rfl | rfl | rfl | rfl | rfl | rfl | rfl | rfl | rfl | rfl | rfl | rfl | rfl | rfl | rfl | rfl | rfl | rfl | rfl | rfl | rfl | rfl | rfl | rfl | rfl) | h
  all_goals (try rfl)
  · unfold impl_Takes impl_Takes.a1 impl_Takes.a2 impl_isBinary impl_isUnary impl_hasFunc impl_in takesL
    by_cases hb : 0 ≤ b
    · by_cases hc : b < (fs.length : Int)
      · obtain ⟨m, hm⟩ := list_get (show b.toNat < fs.length by omega)
        simp [hb, hc, hm, idx_of]
      · have : fs[b.toNat]? = none := List.getElem?_eq_none (by omega)
        simp [hb, hc, this]
    · simp [hb]
  · have e : ∀ c : Int, 0 ≤ c → c ≤ 38 → (a == c) = false := by intro c h1 h2; simp; omega
    have e2 : ∀ c : Int, 0 ≤ c → c ≤ 38 → ¬ a = c := by intro c h1 h2; omega
    unfold impl_Takes impl_Takes.a1 impl_Takes.a2 impl_isBinary impl_isUnary impl_hasFunc impl_in takesL
    rcases h with h | h
    · simp [e, e2, show ¬ 10 ≤ a by omega, show ¬ 24 ≤ a by omega]
    · simp [e, e2, show 10 ≤ a by omega, show 24 ≤ a by omega, show ¬ a ≤ 23 by omega, show ¬ a ≤ 29 by omega]
theorem specPuts (k : Nat) (i : GI2) : spec_Puts k i = some (putsL i) := by
  obtain ⟨a, b⟩ := i
  rcases op_cases a with (rfl | rfl | rfl | rfl | rfl | rfl | rfl | rfl | rfl | rfl | rfl | rfl | rfl | rfl | rfl | rfl | rfl | rfl | rfl | rfl | rfl | rfl | rfl | rfl | rfl | rfl | rfl | rfl | rfl | rfl | rfl | rfl | rfl | rfl | rfl | rfl | rfl | rfl | rfl) | h
  all_goals (try rfl)
  have e : ∀ c : Int, 0 ≤ c → c ≤ 38 → (a == c) = false := by intro c h1 h2; simp; omega
  have e2 : ∀ c : Int, 0 ≤ c → c ≤ 38 → ¬ a = c := by intro c h1 h2; omega
  unfold spec_Puts spec_Puts.a1 spec_l03Binary spec_l03Unary putsL
  rcases h with h | h
  · simp [e, e2, show ¬ 10 ≤ a by omega, show ¬ 24 ≤ a by omega]
  · simp [e, e2, show 10 ≤ a by omega, show 24 ≤ a by omega, show ¬ a ≤ 23 by omega, show ¬ a ≤ 29 by omega]
theorem implPuts (i : GI2) : impl_Puts i = some (putsL i) := by
  obtain ⟨a, b⟩ := i
  rcases op_cases a with (rfl | rfl | rfl | rfl | rfl | rfl | rfl | rfl | rfl | rfl | rfl | rfl | rfl | rfl | rfl | rfl | rfl | rfl | rfl | rfl | rfl | rfl | rfl | rfl | rfl | rfl | rfl | rfl | rfl | rfl | rfl | rfl | rfl | rfl | rfl | rfl | rfl | rfl | rfl) | h
  all_goals (try rfl)
  have e : ∀ c : Int, 0 ≤ c → c ≤ 38 → (a == c) = false := by intro c h1 h2; simp; omega
  have e2 : ∀ c : Int, 0 ≤ c → c ≤ 38 → ¬ a = c := by intro c h1 h2; omega
  unfold impl_Puts impl_isArith impl_in putsL
  rcases h with h | h
  · simp [e, e2, show ¬ 10 ≤ a by omega]
  · simp [e, e2, show 10 ≤ a by omega, show ¬ a ≤ 29 by omega]
theorem implNext (i : GI2) (x : Nat) (h : x < 1000000) : impl_next i (x : Int) = some (nextL i x) := by
  unfold impl_next nextL
  rw [wrap_id (by omega) (by omega)]
  have e : ∀ c : Int, ¬ i.a = c → (i.a == c) = false := by intro c h1; simp; exact h1
  by_cases h1 : i.a = 33 <;> by_cases h2 : i.a = 30 <;> by_cases h3 : i.a = 31 <;> simp [h1, h2, h3, e]
theorem nextL_length (i : GI2) (x : Int) : (nextL i x).length ≤ 2 := by
  unfold nextL
  split <;> (try split) <;> (try split) <;> simp
def putN (len : Nat) (v : Int) : List Int → List Int → List Bool → Option (List Int × List Bool)
  | [], h, w => some (h, w)
  | n :: ns, h, w => if (len : Int) ≤ n then none else match h[n.toNat]? with
    | none => none
    | some x => if 0 ≤ x then (if x = v then putN len v ns h w else none) else putN len v ns (h.set n.toNat v) (w.set n.toNat true)
abbrev StepF := Nat → List Int → List Bool → Option (List Int × List Bool)
def stepI (p : GProgram) (code : List GI2) : StepF := fun x h w => match code[x]?, h[x]? with
  | some i, some y => if IntKind.i64.wrap (y - takesL p i) < 0 then none else if 8 < IntKind.i64.wrap (IntKind.i64.wrap (y - takesL p i) + putsL i) then none
      else putN code.length (IntKind.i64.wrap (IntKind.i64.wrap (y - takesL p i) + putsL i)) (nextL i x) h (w.set x false)
  | _, _ => none
def stepS (p : GProgram) (code : List GI2) : StepF := fun x h w => match code[x]?, h[x]? with
  | some i, some y => if y < takesL p i then none else if 8 < IntKind.i64.wrap (IntKind.i64.wrap (y - takesL p i) + putsL i) then none
      else putN code.length (IntKind.i64.wrap (IntKind.i64.wrap (y - takesL p i) + putsL i)) (nextL i x) h (w.set x false)
  | _, _ => none
def Least (w : List Bool) (x : Nat) : Prop := w[x]? = some true ∧ ∀ j, j < x → w[j]? ≠ some true
inductive HRun (st : StepF) : List Int → List Bool → Option (List Int) → Prop
  | done {h : List Int} {w : List Bool} : (∀ j : Nat, w[j]? ≠ some true) → HRun st h w (some h)
  | bad {h : List Int} {w : List Bool} {x : Nat} : Least w x → st x h w = none → HRun st h w none
  | go {h h' : List Int} {w w' : List Bool} {x : Nat} {r : Option (List Int)} : Least w x → st x h w = some (h', w') → HRun st h' w' r → HRun st h w r
theorem least_or (w : List Bool) : (∀ j : Nat, w[j]? ≠ some true) ∨ ∃ x, Least w x := by
  by_cases h : ∃ j : Nat, w[j]? = some true
  · right
    obtain ⟨j, hj⟩ := h
    induction j using Nat.strongRecOn with
    | _ j ih =>
      by_cases c : ∃ i, i < j ∧ w[i]? = some true
      · obtain ⟨i, hi, hw⟩ := c
        exact ih i hi hw
      · exact ⟨j, hj, fun i hi hw => c ⟨i, hi, hw⟩⟩
  · left
    intro j hj
    exact h ⟨j, hj⟩
theorem wrap64_eq (x : Int) : IntKind.i64.wrap x = if x % 18446744073709551616 ≥ 9223372036854775808 then x % 18446744073709551616 - 18446744073709551616 else x % 18446744073709551616 := by
  simp [IntKind.wrap, IntKind.bits, IntKind.signed]
def cw (N j : Nat) (x : Int) (b : Bool) : Nat := (if x < 0 then 3 * N else 0) + (if b then (if x < 0 then N - j else 3 * N) else 0)
def mz (N : Nat) : Nat → List Int → List Bool → Nat
  | j, x :: h, b :: w => cw N j x b + mz N (j + 1) h w
  | _, _, _ => 0
theorem mz_set (N : Nat) : ∀ (j : Nat) (h : List Int) (w : List Bool) (i : Nat) (x : Int) (b : Bool) (x' : Int) (b' : Bool), h[i]? = some x → w[i]? = some b → mz N j (h.set i x') (w.set i b') + cw N (j + i) x b = mz N j h w + cw N (j + i) x' b'
  | j, [], w, i, x, b, x', b', h1, h2 => by simp at h1
  | j, y :: h, [], i, x, b, x', b', h1, h2 => by simp at h2
  | j, y :: h, c :: w, 0, x, b, x', b', h1, h2 => by
    simp at h1 h2
    subst h1 h2
    simp only [List.set_cons_zero, mz, Nat.add_zero]
    omega
  | j, y :: h, c :: w, i + 1, x, b, x', b', h1, h2 => by
    simp only [List.getElem?_cons_succ] at h1 h2
    simp only [List.set_cons_succ, mz]
    have := mz_set N (j + 1) h w i x b x' b' h1 h2
    rw [show j + 1 + i = j + (i + 1) by omega] at this
    omega
theorem set_same {α : Type} {l : List α} {i : Nat} {x : α} (h : l[i]? = some x) : l.set i x = l := by
  apply List.ext_getElem?
  intro j
  by_cases e : i = j
  · subst e
    rw [List.getElem?_set_self (List.getElem?_eq_some_iff.1 h).1, h]
  · rw [List.getElem?_set_ne e]
theorem mz_setw {N : Nat} {h : List Int} {w : List Bool} {i : Nat} {x : Int} {b : Bool} (b' : Bool) (h1 : h[i]? = some x) (h2 : w[i]? = some b) : mz N 0 h (w.set i b') + cw N i x b = mz N 0 h w + cw N i x b' := by
  have := mz_set N 0 h w i x b x b' h1 h2
  rw [Nat.zero_add] at this
  rwa [set_same h1] at this
structure HInv (A : Int → Prop) (W : Int → Prop) (h : List Int) (w : List Bool) : Prop where
  len : h.length = w.length
  all : ∀ (j : Nat) (x : Int), h[j]? = some x → A x
  wt : ∀ (j : Nat) (x : Int), h[j]? = some x → w[j]? = some true → W x
theorem HInv.drop {A W : Int → Prop} {h : List Int} {w : List Bool} (i : HInv A W h w) (x : Nat) : HInv A W h (w.set x false) := by
  refine ⟨by simpa using i.len, i.all, fun j y h1 h2 => ?_⟩
  by_cases e : x = j
  · subst e
    rw [List.getElem?_set_self (by have := (List.getElem?_eq_some_iff.1 h1).1; have := i.len; omega)] at h2
    cases h2
  · rw [List.getElem?_set_ne e] at h2
    exact i.wt j y h1 h2
theorem HInv.put {A W : Int → Prop} {h : List Int} {w : List Bool} (i : HInv A W h w) (x : Nat) {v : Int} (hA : A v) (hW : W v) : HInv A W (h.set x v) (w.set x true) := by
  refine ⟨by simpa using i.len, fun j y h1 => ?_, fun j y h1 h2 => ?_⟩
  · by_cases e : x = j
    · subst e
      by_cases hx : x < h.length
      · rw [List.getElem?_set_self hx] at h1; cases h1; exact hA
      · rw [List.getElem?_eq_none (by simp; omega)] at h1; cases h1
    · rw [List.getElem?_set_ne e] at h1; exact i.all j y h1
  · by_cases e : x = j
    · subst e
      by_cases hx : x < h.length
      · rw [List.getElem?_set_self hx] at h1; cases h1; exact hW
      · rw [List.getElem?_eq_none (by simp; omega)] at h1; cases h1
    · rw [List.getElem?_set_ne e] at h1 h2; exact i.wt j y h1 h2
def more (N : Nat) : List Int → Nat
  | [] => 0
  | n :: ns => (N - n.toNat) + more N ns
theorem putN_inv {A W : Int → Prop} {len : Nat} {v : Int} (N : Nat) (hA : A v) (hW : W v) : ∀ (ns : List Int) (h : List Int) (w : List Bool) (h' : List Int) (w' : List Bool), HInv A W h w → putN len v ns h w = some (h', w') →
    HInv A W h' w' ∧ h'.length = h.length ∧ mz N 0 h' w' ≤ mz N 0 h w + (if v < 0 then more N ns else 0)
  | [], h, w, h', w', hi, hp => by
    simp only [putN, Option.some.injEq, Prod.mk.injEq] at hp
    obtain ⟨rfl, rfl⟩ := hp
    exact ⟨hi, rfl, by simp⟩
  | n :: ns, h, w, h', w', hi, hp => by
    simp only [putN] at hp
    split at hp
    · cases hp
    split at hp
    · cases hp
    rename_i x hx
    split at hp
    · split at hp
      · obtain ⟨h1, h2, h3⟩ := putN_inv N hA hW ns h w h' w' hi hp
        refine ⟨h1, h2, ?_⟩
        simp only [more]
        split at h3 <;> simp_all <;> omega
      · cases hp
    · rename_i hneg
      obtain ⟨h1, h2, h3⟩ := putN_inv N hA hW ns _ _ h' w' (hi.put n.toNat hA hW) hp
      obtain ⟨b, hb⟩ := list_get (show n.toNat < w.length by have := (List.getElem?_eq_some_iff.1 hx).1; have := hi.len; omega)
      have hm := mz_set N 0 h w n.toNat x b v true hx hb
      rw [Nat.zero_add] at hm
      refine ⟨h1, by simpa using h2, ?_⟩
      have c1 : 3 * N ≤ cw N n.toNat x b := by unfold cw; rw [if_pos (by omega)]; omega
      have c2 : cw N n.toNat v true ≤ 3 * N + (if v < 0 then N - n.toNat else 0) := by unfold cw; split <;> simp
      simp only [more]
      split at h3
      · rename_i c; rw [if_pos c] at c2; rw [if_pos c]; omega
      · rename_i c; rw [if_neg c] at c2; rw [if_neg c]; omega
def Good (len : Nat) (A W : Int → Prop) (st : StepF) : Prop := ∀ (x : Nat) (h : List Int) (w : List Bool) (h' : List Int) (w' : List Bool), h.length = len → HInv A W h w → w[x]? = some true → st x h w = some (h', w') →
  HInv A W h' w' ∧ h'.length = h.length ∧ mz (len + 1) 0 h' w' < mz (len + 1) 0 h w
theorem run_ex {len : Nat} {A W : Int → Prop} {st : StepF} (g : Good len A W st) : ∀ (n : Nat) (h : List Int) (w : List Bool), mz (len + 1) 0 h w = n → h.length = len → HInv A W h w → ∃ r, HRun st h w r := by
  intro n
  induction n using Nat.strongRecOn with
  | _ n ih =>
    intro h w hn hl hi
    rcases least_or w with hd | ⟨x, hx⟩
    · exact ⟨_, .done hd⟩
    · cases hs : st x h w with
      | none => exact ⟨_, .bad hx hs⟩
      | some q =>
        obtain ⟨h', w'⟩ := q
        obtain ⟨h1, h2, h3⟩ := g x h w h' w' hl hi hx.1 hs
        obtain ⟨r, hr⟩ := ih _ (hn ▸ h3) h' w' rfl (h2.trans hl) h1
        exact ⟨r, .go hx hs hr⟩
theorem step_fall {A W : Int → Prop} {len : Nat} {v y : Int} {ns h h' : List Int} {w w' : List Bool} {x : Nat} (hl : h.length = len) (hi : HInv A W h w) (hA : A v) (hW : W v) (hy : h[x]? = some y) (hw : w[x]? = some true) (hns : ns.length ≤ 2)
    (hv : y < 0 → 0 ≤ v ∨ ns = [(x : Int) + 1])
    (hp : putN len v ns h (w.set x false) = some (h', w')) : HInv A W h' w' ∧ h'.length = h.length ∧ mz (len + 1) 0 h' w' < mz (len + 1) 0 h w := by
  obtain ⟨h1, h2, h3⟩ := putN_inv (len + 1) hA hW ns h _ h' w' (hi.drop x) hp
  have hx := (List.getElem?_eq_some_iff.1 hy).1
  have hm := mz_setw (N := len + 1) false hy hw
  refine ⟨h1, h2, ?_⟩
  have c1 : cw (len + 1) x y true = cw (len + 1) x y false + (if y < 0 then len + 1 - x else 3 * (len + 1)) := by unfold cw; simp
  have c3 : more (len + 1) ns ≤ 2 * (len + 1) := by
    match ns, hns with
    | [], _ => simp [more]
    | [a], _ => simp only [more]; omega
    | [a, b], _ => simp only [more]; omega
  by_cases c : y < 0
  · rw [if_pos c] at c1
    rcases hv c with h0 | h0
    · rw [if_neg (by omega)] at h3
      omega
    · subst h0
      have : more (len + 1) [(x : Int) + 1] = len + 1 - (x + 1) := by simp only [more]; omega
      rw [this] at h3
      split at h3 <;> omega
  · rw [if_neg c] at c1
    split at h3 <;> omega
abbrev A1 (x : Int) : Prop := -1 ≤ x ∧ x ≤ 8
abbrev W1 (x : Int) : Prop := 0 ≤ x ∧ x ≤ 8
abbrev A2 (x : Int) : Prop := (-1 ≤ x ∧ x ≤ 8) ∨ (-9223372036854775808 ≤ x ∧ x ≤ -9223372036854775788)
abbrev W2 (x : Int) : Prop := (0 ≤ x ∧ x ≤ 8) ∨ (-9223372036854775808 ≤ x ∧ x ≤ -9223372036854775788)
def Args64 (p : GProgram) : Prop := ∀ f ∈ p.funcs, -9223372036854775808 ≤ f.args ∧ f.args ≤ 9223372036854775807
theorem takes64 {p : GProgram} (h : Args64 p) (i : GI2) : -9223372036854775808 ≤ takesL p i ∧ takesL p i ≤ 9223372036854775807 := by
  unfold takesL
  split
  · omega
  split
  · omega
  split
  · split
    · split
      · rename_i f hf
        exact h f (List.mem_of_getElem? hf)
      · omega
    · omega
  split
  · omega
  split <;> omega
theorem puts_next {i : GI2} {x : Int} (h : 0 < putsL i) : nextL i x = [x + 1] := by
  unfold putsL at h
  unfold nextL
  split at h
  · rw [if_neg (by omega), if_neg (by omega), if_neg (by omega)]
  · split at h
    · rw [if_neg (by omega), if_neg (by omega), if_neg (by omega)]
    · omega
theorem goodI (p : GProgram) (code : List GI2) (hp : Args64 p) : Good code.length A2 W2 (stepI p code) := by
  intro x h w h' w' hl hi hw hs
  unfold stepI at hs
  split at hs
  · rename_i i y hi' hy
    split at hs
    · cases hs
    split at hs
    · cases hs
    rename_i c1 c2
    have hW := hi.wt x y hy hw
    have hpu := putsL_range i
    have e1 : 0 ≤ IntKind.i64.wrap (y - takesL p i) := by omega
    have e2 : IntKind.i64.wrap (y - takesL p i) ≤ 9223372036854775807 := by rw [wrap64_eq]; split <;> omega
    generalize IntKind.i64.wrap (y - takesL p i) = q at *
    have hv : W2 (IntKind.i64.wrap (q + putsL i)) ∧ (0 ≤ IntKind.i64.wrap (q + putsL i) ∨ 0 < putsL i) := by
      by_cases c : q + putsL i ≤ 9223372036854775807
      · rw [wrap_id (by omega) c] at c2 ⊢
        exact ⟨.inl ⟨by omega, by omega⟩, .inl (by omega)⟩
      · have : IntKind.i64.wrap (q + putsL i) = q + putsL i - 18446744073709551616 := by rw [wrap64_eq]; split <;> omega
        rw [this]
        exact ⟨.inr ⟨by omega, by omega⟩, .inr (by omega)⟩
    refine step_fall hl hi ?_ hv.1 hy hw (nextL_length _ _) (fun hh => ?_) hs
    · have := hv.1; rcases this with h1 | h1
      · exact .inl ⟨by omega, h1.2⟩
      · exact .inr h1
    · rcases hv.2 with h1 | h1
      · exact .inl h1
      · exact .inr (puts_next h1)
  · cases hs
theorem goodS (p : GProgram) (code : List GI2) (hp : Args64 p) : Good code.length A2 W2 (stepS p code) := by
  intro x h w h' w' hl hi hw hs
  unfold stepS at hs
  split at hs
  · rename_i i y hi' hy
    split at hs
    · cases hs
    split at hs
    · cases hs
    rename_i c1 c2
    have hW := hi.wt x y hy hw
    have hpu := putsL_range i
    have ht := takes64 hp i
    have hv : W2 (IntKind.i64.wrap (IntKind.i64.wrap (y - takesL p i) + putsL i)) ∧ (y < 0 → 0 ≤ IntKind.i64.wrap (IntKind.i64.wrap (y - takesL p i) + putsL i)) := by
      by_cases c : y - takesL p i ≤ 9223372036854775807
      · rw [wrap_id (x := y - takesL p i) (by omega) c] at c2 ⊢
        by_cases d : y - takesL p i + putsL i ≤ 9223372036854775807
        · rw [wrap_id (by omega) d] at c2 ⊢
          exact ⟨.inl ⟨by omega, by omega⟩, fun _ => by omega⟩
        · have : IntKind.i64.wrap (y - takesL p i + putsL i) = y - takesL p i + putsL i - 18446744073709551616 := by rw [wrap64_eq]; split <;> omega
          rw [this]
          exact ⟨.inr ⟨by omega, by omega⟩, fun _ => by omega⟩
      · have : IntKind.i64.wrap (y - takesL p i) = y - takesL p i - 18446744073709551616 := by rw [wrap64_eq]; split <;> omega
        rw [this, wrap_id (by omega) (by omega)]
        exact ⟨.inr ⟨by omega, by omega⟩, fun _ => by omega⟩
    refine step_fall hl hi ?_ hv.1 hy hw (nextL_length _ _) (fun hh => .inl (hv.2 hh)) hs
    have := hv.1; rcases this with h1 | h1
    · exact .inl ⟨by omega, h1.2⟩
    · exact .inr h1
  · cases hs
def Normal (p : GProgram) : Prop := ∀ f ∈ p.funcs, 0 ≤ f.args ∧ f.args ≤ 4
theorem takesN {p : GProgram} (h : Normal p) (i : GI2) : 0 ≤ takesL p i ∧ takesL p i ≤ 4 := by
  unfold takesL
  split
  · omega
  split
  · omega
  split
  · split
    · split
      · rename_i f hf
        exact h f (List.mem_of_getElem? hf)
      · omega
    · omega
  split
  · omega
  split <;> omega
def stepN (p : GProgram) (code : List GI2) : StepF := fun x h w => match code[x]?, h[x]? with
  | some i, some y => if y < takesL p i then none else if 8 < y - takesL p i + putsL i then none
      else putN code.length (y - takesL p i + putsL i) (nextL i x) h (w.set x false)
  | _, _ => none
theorem stepI_N {p : GProgram} (hp : Normal p) {code : List GI2} {x : Nat} {h : List Int} {w : List Bool} (hi : HInv A1 W1 h w) (hw : w[x]? = some true) : stepI p code x h w = stepN p code x h w := by
  unfold stepI stepN
  cases hi' : code[x]? with
  | none => rfl
  | some i =>
    cases hy : h[x]? with
    | none => rfl
    | some y =>
      have hW := hi.wt x y hy hw
      have ht := takesN hp i
      have hpu := putsL_range i
      simp only []
      rw [wrap_id (x := y - takesL p i) (by omega) (by omega), wrap_id (by omega) (by omega)]
      by_cases c : y < takesL p i
      · rw [if_pos (by omega), if_pos c]
      · rw [if_neg (by omega), if_neg c]
theorem stepS_N {p : GProgram} (hp : Normal p) {code : List GI2} {x : Nat} {h : List Int} {w : List Bool} (hi : HInv A1 W1 h w) (hw : w[x]? = some true) : stepS p code x h w = stepN p code x h w := by
  unfold stepS stepN
  cases hi' : code[x]? with
  | none => rfl
  | some i =>
    cases hy : h[x]? with
    | none => rfl
    | some y =>
      have hW := hi.wt x y hy hw
      have ht := takesN hp i
      have hpu := putsL_range i
      simp only []
      rw [wrap_id (x := y - takesL p i) (by omega) (by omega), wrap_id (by omega) (by omega)]
theorem stepN_inv {p : GProgram} (hp : Normal p) {code : List GI2} {x : Nat} {h h' : List Int} {w w' : List Bool} (hi : HInv A1 W1 h w) (hw : w[x]? = some true) (hs : stepN p code x h w = some (h', w')) : HInv A1 W1 h' w' ∧ h'.length = h.length := by
  unfold stepN at hs
  split at hs
  · rename_i i y hi' hy
    split at hs
    · cases hs
    split at hs
    · cases hs
    have hpu := putsL_range i
    obtain ⟨h1, h2, -⟩ := putN_inv 0 (A := A1) (W := W1) ⟨by omega, by omega⟩ ⟨by omega, by omega⟩ _ _ _ _ _ (hi.drop x) hs
    exact ⟨h1, h2⟩
  · cases hs
theorem run_N {p : GProgram} (hp : Normal p) {code : List GI2} {st : StepF} (he : ∀ (x : Nat) (h : List Int) (w : List Bool), HInv A1 W1 h w → w[x]? = some true → st x h w = stepN p code x h w) {h : List Int} {w : List Bool} {r : Option (List Int)}
    (hr : HRun st h w r) (hi : HInv A1 W1 h w) : HRun (stepN p code) h w r := by
  induction hr with
  | done h1 => exact .done h1
  | bad h1 h2 => exact .bad h1 ((he _ _ _ hi h1.1).symm.trans h2)
  | go h1 h2 _ ih =>
    have h3 := (he _ _ _ hi h1.1).symm.trans h2
    exact .go h1 h3 (ih (stepN_inv hp hi h1.1 h3).1)
theorem least_same {w : List Bool} {x y : Nat} (h1 : Least w x) (h2 : Least w y) : x = y := by
  rcases Nat.lt_trichotomy x y with h | h | h
  · exact absurd h1.1 (h2.2 x h)
  · exact h
  · exact absurd h2.1 (h1.2 y h)
theorem run_same {st : StepF} {h : List Int} {w : List Bool} {r s : Option (List Int)} (hr : HRun st h w r) (hs : HRun st h w s) : r = s := by
  induction hr generalizing s with
  | done h1 =>
    cases hs with
    | done => rfl
    | bad h2 _ => exact absurd h2.1 (h1 _)
    | go h2 _ _ => exact absurd h2.1 (h1 _)
  | bad h1 h2 =>
    cases hs with
    | done h3 => exact absurd h1.1 (h3 _)
    | bad => rfl
    | go h3 h4 _ =>
      rw [least_same h1 h3, h4] at h2; cases h2
  | go h1 h2 _ ih =>
    cases hs with
    | done h3 => exact absurd h1.1 (h3 _)
    | bad h3 h4 => rw [least_same h1 h3, h4] at h2; cases h2
    | go h3 h4 h5 =>
      rw [least_same h1 h3, h4] at h2
      cases h2
      exact ih h5
theorem Ev.idxI {α β : Type} {l : List α} {i : Int} {m : α} {g : Nat → α → Option β} {v : β} (h0 : 0 ≤ i) (h : l[i.toNat]? = some m) (h2 : Ev (fun k => g k m) v) : Ev (fun k => (L.idx l i).bind (g k)) v := by
  refine Ev.bind (a := m) (Ev.const ?_) h2
  rw [idx_of h0, h]
theorem at_mid {α : Type} (pre : List α) (n : α) (ns : List α) : (pre ++ n :: ns)[pre.length]? = some n := by simp
theorem specLeast_l (w : List Bool) (hn : w.length < 1099511627776) : ∀ (d i : Nat), w.length - i = d → i ≤ w.length → (∀ j : Nat, j < i → w[j]? ≠ some true) →
    (∃ x, Least w x ∧ Ev (fun k => spec_l04Least.l1 k w (i : Int)) (.inl (x : Int))) ∨ ((∀ j : Nat, w[j]? ≠ some true) ∧ Ev (fun k => spec_l04Least.l1 k w (i : Int)) (.inr ())) := by
  intro d
  induction d with
  | zero =>
    intro i hd hi hj
    right
    refine ⟨fun j => ?_, ?_⟩
    · rcases Nat.lt_or_ge j i with h | h
      · exact hj j h
      · rw [List.getElem?_eq_none (by omega)]; simp
    · refine Ev.succ ?_
      simp only [spec_l04Least.l1]
      exact Ev.cf (df (by omega)) Ev.pure
  | succ d ih =>
    intro i hd hi hj
    obtain ⟨b, hb⟩ := list_get (show i < w.length by omega)
    cases b with
    | true =>
      left
      refine ⟨i, ⟨hb, hj⟩, ?_⟩
      refine Ev.succ ?_
      simp only [spec_l04Least.l1]
      exact Ev.ct (dt (by omega)) (Ev.idx hb (Ev.ct rfl Ev.pure))
    | false =>
      have step : ∀ o, Ev (fun k => spec_l04Least.l1 k w ((i + 1 : Nat) : Int)) o → Ev (fun k => spec_l04Least.l1 k w (i : Int)) o := by
        intro o ho
        refine Ev.succ ?_
        simp only [spec_l04Least.l1]
        refine Ev.ct (dt (by omega)) (Ev.idx hb (Ev.cf rfl ?_))
        rw [wrap_nat (by omega)]
        exact ho
      rcases ih (i + 1) (by omega) (by omega) (fun j hji => by
        by_cases e : j = i
        · subst e; rw [hb]; simp
        · exact hj j (by omega)) with ⟨x, h1, h2⟩ | ⟨h1, h2⟩
      · exact .inl ⟨x, h1, step _ h2⟩
      · exact .inr ⟨h1, step _ h2⟩
theorem specLeast_some {w : List Bool} (hn : w.length < 1099511627776) {x : Nat} (h : Least w x) : Ev (fun k => spec_l04Least k w) (x : Int) := by
  rcases specLeast_l w hn _ 0 rfl (by omega) (fun j hj => by omega) with ⟨y, h1, h2⟩ | ⟨h1, h2⟩
  · rw [least_same h h1]
    exact Ev.bind h2 Ev.pure
  · exact absurd h.1 (h1 x)
theorem specLeast_none {w : List Bool} (hn : w.length < 1099511627776) (h : ∀ j : Nat, w[j]? ≠ some true) : Ev (fun k => spec_l04Least k w) (-1) := by
  rcases specLeast_l w hn _ 0 rfl (by omega) (fun j hj => by omega) with ⟨y, h1, h2⟩ | ⟨h1, h2⟩
  · exact absurd h1.1 (h y)
  · exact Ev.bind h2 Ev.pure
theorem specPut (fs : List GFunc) (z : GI3) (f : Int) (code : List GI2) (bad : GI3) (v : Int) (hbad : bad.c ≠ 0) (hlen : code.length < 1099511627776) :
    ∀ (ns pre : List Int) (h : List Int) (w : List Bool), (∀ n ∈ ns, 0 ≤ n) → h.length = code.length → w.length = code.length → (pre ++ ns).length < 1099511627776 →
    ∃ o, Ev (fun k => spec_l04Heights.l6 k fs z h w bad (pre ++ ns) f code v (pre.length : Int)) o ∧
      match putN code.length v ns h w with
      | some (h', w') => o = .inr (fs, z, h', w', f, code)
      | none => ∃ hh e, o = .inl (hh, e) ∧ e.c ≠ 0
  | [], pre, h, w, hns, hh, hw, hp => by
    refine ⟨.inr (fs, z, h, w, f, code), ?_, rfl⟩
    refine Ev.succ ?_
    simp only [spec_l04Heights.l6, List.append_nil]
    exact Ev.cf (df (by omega)) Ev.pure
  | n :: ns, pre, h, w, hns, hh, hw, hp => by
    have hn0 := hns n (by simp)
    have hmid := at_mid pre n ns
    have hl : (pre.length : Int) < ((pre ++ n :: ns).length : Int) := by simp; omega
    by_cases c : (code.length : Int) ≤ n
    · refine ⟨.inl (h, ⟨bad.a, bad.b, 6⟩), ?_, ?_⟩
      · refine Ev.succ ?_
        simp only [spec_l04Heights.l6]
        exact Ev.ct (dt hl) (Ev.idx hmid (Ev.ct (dt c) Ev.pure))
      · simp only [putN, if_pos c]
        exact ⟨_, _, rfl, by simp⟩
    · obtain ⟨x, hx⟩ := list_get (show n.toNat < h.length by omega)
      obtain ⟨b, hb⟩ := list_get (show n.toNat < w.length by omega)
      have ha7 : Ev (fun k => spec_l04Heights.a7 k fs z h w bad (pre ++ n :: ns) f code v (pre.length : Int)) (if 0 ≤ x ∧ x ≠ v then .inl (h, bad) else .inr (fs, z, h, w, bad, pre ++ n :: ns, f, code, v, (pre.length : Int))) := by
        unfold spec_l04Heights.a7
        refine Ev.idx hmid (Ev.idxI hn0 hx ?_)
        by_cases c1 : 0 ≤ x
        · refine Ev.ct (dt c1) ?_
          by_cases c2 : x = v
          · rw [if_neg (by omega)]
            exact Ev.cf (by simp [c2]) Ev.pure
          · rw [if_pos ⟨c1, c2⟩]
            exact Ev.ct (by simp [c2]) Ev.pure
        · rw [if_neg (by omega)]
          exact Ev.cf (df c1) Ev.pure
      have pre' : pre ++ n :: ns = (pre ++ [n]) ++ ns := by simp
      have plen : ((pre.length + 1 : Nat) : Int) = ((pre ++ [n]).length : Int) := by simp
      by_cases c1 : 0 ≤ x
      · by_cases c2 : x = v
        · obtain ⟨o, ho, hm⟩ := specPut fs z f code bad v hbad hlen ns (pre ++ [n]) h w (fun m hm => hns m (by simp [hm])) hh hw (by rw [← pre']; exact hp)
          refine ⟨o, ?_, ?_⟩
          · refine Ev.succ ?_
            simp only [spec_l04Heights.l6]
            refine Ev.ct (dt hl) (Ev.idx hmid (Ev.cf (df (by omega)) (Ev.bind ha7 ?_)))
            rw [if_neg (by omega)]
            simp only [Sum.elim_inr]
            refine Ev.idx hmid (Ev.idxI hn0 hx (Ev.cf (df (by omega)) ?_))
            rw [wrap_nat (by simp at hp; omega), plen, pre']
            exact ho
          · simp only [putN, if_neg c, hx, if_pos c1, if_pos c2]
            exact hm
        · refine ⟨.inl (h, bad), ?_, ?_⟩
          · refine Ev.succ ?_
            simp only [spec_l04Heights.l6]
            refine Ev.ct (dt hl) (Ev.idx hmid (Ev.cf (df (by omega)) (Ev.bind ha7 ?_)))
            rw [if_pos ⟨c1, c2⟩]
            exact Ev.pure
          · simp only [putN, if_neg c, hx, if_pos c1, if_neg c2]
            exact ⟨_, _, rfl, hbad⟩
      · obtain ⟨o, ho, hm⟩ := specPut fs z f code bad v hbad hlen ns (pre ++ [n]) (h.set n.toNat v) (w.set n.toNat true) (fun m hm => hns m (by simp [hm])) (by simpa using hh) (by simpa using hw) (by rw [← pre']; exact hp)
        refine ⟨o, ?_, ?_⟩
        · refine Ev.succ ?_
          simp only [spec_l04Heights.l6]
          refine Ev.ct (dt hl) (Ev.idx hmid (Ev.cf (df (by omega)) (Ev.bind ha7 ?_)))
          rw [if_neg (by omega)]
          simp only [Sum.elim_inr]
          refine Ev.idx hmid (Ev.idxI hn0 hx (Ev.ct (dt (by omega)) (Ev.idxI hn0 hb ?_)))
          rw [wrap_nat (by simp at hp; omega), plen, pre']
          exact ho
        · simp only [putN, if_neg c, hx, if_neg c1]
          exact hm
def JumpsOk (code : List GI2) : Prop := ∀ i ∈ code, (i.a = 30 ∨ i.a = 31) → 0 ≤ i.b ∧ i.b < (code.length : Int)
theorem nextL_pos {code : List GI2} (hj : JumpsOk code) {i : GI2} (hi : i ∈ code) (x : Nat) : ∀ n ∈ nextL i (x : Int), 0 ≤ n := by
  intro n hn
  unfold nextL at hn
  split at hn
  · cases hn
  split at hn
  · simp at hn; subst hn; exact (hj i hi (.inl ‹_›)).1
  split at hn
  · simp at hn
    rcases hn with rfl | rfl
    · omega
    · exact (hj i hi (.inr ‹_›)).1
  · simp at hn; omega
def SpecRes (code : List GI2) (o : List Int × GI3) : Option (List Int) → Prop
  | some hf => o = (hf, ⟨0, 0, 0⟩) ∧ hf.length = code.length
  | none => o.2.c ≠ 0
theorem specRun (p : GProgram) (f : Int) (code : List GI2) (z : GI3) (hj : JumpsOk code) (hlen : code.length < 1099511627) {h : List Int} {w : List Bool} {r : Option (List Int)} (hr : HRun (stepS p code) h w r) :
    h.length = code.length → w.length = code.length → ∃ o, Ev (fun k => spec_l04Heights.l2 k p.funcs z h w f code) o ∧ SpecRes code o r := by
  -- what a round does
  have round : ∀ (h : List Int) (w : List Bool) (x : Nat), h.length = code.length → w.length = code.length → Least w x →
      match stepS p code x h w with
      | none => ∃ o, Ev (fun k => spec_l04Heights.l2 k p.funcs z h w f code) o ∧ o.2.c ≠ 0
      | some (h', w') => ∀ o, Ev (fun k => spec_l04Heights.l2 k p.funcs z h' w' f code) o → Ev (fun k => spec_l04Heights.l2 k p.funcs z h w f code) o := by
    intro h w x hh hw hx
    have hxw := (List.getElem?_eq_some_iff.1 hx.1).1
    obtain ⟨i, hi⟩ := list_get (show x < code.length by omega)
    obtain ⟨y, hy⟩ := list_get (show x < h.length by omega)
    have him := List.mem_of_getElem? hi
    have hp : (⟨p.funcs⟩ : GProgram) = p := rfl
    -- the part ahead of the places
    have ha3 : Ev (fun k => spec_l04Heights.a3 k p.funcs z h (w.set x false) i ⟨f, x, 5⟩ f code (x : Int) (takesL p i) (IntKind.i64.wrap (IntKind.i64.wrap (y - takesL p i) + putsL i)))
        (if y < takesL p i ∨ 8 < IntKind.i64.wrap (IntKind.i64.wrap (y - takesL p i) + putsL i) then .inl (h, ⟨f, x, 5⟩) else .inr (p.funcs, z, h, w.set x false, i, ⟨f, x, 5⟩, f, code, (x : Int), IntKind.i64.wrap (IntKind.i64.wrap (y - takesL p i) + putsL i))) := by
      unfold spec_l04Heights.a3
      refine Ev.idx hy ?_
      by_cases c1 : y < takesL p i
      · rw [if_pos (.inl c1)]; exact Ev.ct (dt c1) Ev.pure
      · refine Ev.cf (df c1) ?_
        by_cases c2 : 8 < IntKind.i64.wrap (IntKind.i64.wrap (y - takesL p i) + putsL i)
        · rw [if_pos (.inr c2)]; exact Ev.ct (dt c2) Ev.pure
        · rw [if_neg (by omega)]; exact Ev.cf (df c2) Ev.pure
    unfold stepS
    simp only [hi, hy]
    by_cases c1 : y < takesL p i
    · rw [if_pos c1]
      refine ⟨(h, ⟨f, x, 5⟩), ?_, by simp⟩
      refine Ev.succ ?_
      simp only [spec_l04Heights.l2, specTakes, specPuts, Option.bind_some, hp]
      refine Ev.bind (specLeast_some (by omega) hx) (Ev.cf (df (by omega)) (Ev.idx hx.1 (Ev.idx hi ?_)))
      simp only [specTakes, specPuts, Option.bind_some, Int.toNat_natCast]
      refine Ev.idx hy (Ev.bind ha3 ?_)
      rw [if_pos (.inl c1)]
      exact Ev.pure
    · rw [if_neg c1]
      by_cases c2 : 8 < IntKind.i64.wrap (IntKind.i64.wrap (y - takesL p i) + putsL i)
      · rw [if_pos c2]
        refine ⟨(h, ⟨f, x, 5⟩), ?_, by simp⟩
        refine Ev.succ ?_
        simp only [spec_l04Heights.l2]
        refine Ev.bind (specLeast_some (by omega) hx) (Ev.cf (df (by omega)) (Ev.idx hx.1 (Ev.idx hi ?_)))
        simp only [specTakes, specPuts, Option.bind_some, Int.toNat_natCast]
        refine Ev.idx hy (Ev.bind ha3 ?_)
        rw [if_pos (.inr c2)]
        exact Ev.pure
      · rw [if_neg c2]
        generalize hv : IntKind.i64.wrap (IntKind.i64.wrap (y - takesL p i) + putsL i) = v at *
        have ha4 : Ev (fun k => spec_l04Heights.a4 k p.funcs z h (w.set x false) i ⟨f, x, 5⟩ [] f code (x : Int) v) (p.funcs, z, h, w.set x false, i, ⟨f, x, 5⟩, f, code, v, if i.a ≠ 30 ∧ i.a ≠ 33 then [(x : Int) + 1] else []) := by
          unfold spec_l04Heights.a4
          by_cases d1 : i.a = 30
          · rw [if_neg (by omega)]; exact Ev.cf (by simp [d1]) Ev.pure
          · refine Ev.ct (by simp [d1]) ?_
            by_cases d2 : i.a = 33
            · rw [if_neg (by omega)]; exact Ev.cf (by simp [d2]) Ev.pure
            · rw [if_pos ⟨d1, d2⟩]
              refine Ev.ct (by simp [d2]) (Ev.gd ⟨by simp, by simp⟩ ?_)
              rw [wrap_nat (by omega)]
              exact Ev.pure
        have ha5 : Ev (fun k => spec_l04Heights.a5 k p.funcs z h (w.set x false) i ⟨f, x, 5⟩ (if i.a ≠ 30 ∧ i.a ≠ 33 then [(x : Int) + 1] else []) f code v) (p.funcs, z, h, w.set x false, ⟨f, x, 5⟩, f, code, v, nextL i x) := by
          unfold spec_l04Heights.a5 nextL
          by_cases d1 : i.a = 30
          · refine Ev.ct (by simp [d1]) ?_
            simp only [d1]
            exact Ev.gd ⟨by simp, by simp⟩ Ev.pure
          · refine Ev.cf (by simp [d1]) ?_
            by_cases d2 : i.a = 31
            · refine Ev.ct (by simp [d2]) ?_
              simp only [d2]
              exact Ev.gd ⟨by simp, by simp⟩ Ev.pure
            · refine Ev.cf (by simp [d2]) ?_
              by_cases d3 : i.a = 33
              · simp only [d3]; exact Ev.pure
              · rw [if_pos ⟨d1, d3⟩, if_neg d3, if_neg d1, if_neg d2]; exact Ev.pure
        obtain ⟨o, ho, hm⟩ := specPut p.funcs z f code ⟨f, x, 5⟩ v (by simp) (by omega) (nextL i x) [] h (w.set x false) (nextL_pos hj him x) hh (by simpa using hw) (by have := nextL_length i x; simp; omega)
        have go : ∀ o', (Ev (fun k => (Sum.elim (fun o6l => some (o6l.1, o6l.2)) (fun o6r => spec_l04Heights.l2 k o6r.1 o6r.2.1 o6r.2.2.1 o6r.2.2.2.1 o6r.2.2.2.2.1 o6r.2.2.2.2.2) o : Option (List Int × GI3))) o') → Ev (fun k => spec_l04Heights.l2 k p.funcs z h w f code) o' := by
          intro o' h'
          refine Ev.succ ?_
          simp only [spec_l04Heights.l2]
          refine Ev.bind (specLeast_some (by omega) hx) (Ev.cf (df (by omega)) (Ev.idx hx.1 (Ev.idx hi ?_)))
          simp only [specTakes, specPuts, Option.bind_some, Int.toNat_natCast]
          refine Ev.idx hy ?_
          rw [hv]
          refine Ev.bind ha3 ?_
          rw [if_neg (by omega)]
          simp only [Sum.elim_inr]
          exact Ev.bind ha4 (Ev.bind ha5 (Ev.bind ho h'))
        cases hput : putN code.length v (nextL i x) h (w.set x false) with
        | none =>
          rw [hput] at hm
          obtain ⟨hh', e, rfl, he⟩ := hm
          exact ⟨(hh', e), go _ Ev.pure, he⟩
        | some q =>
          obtain ⟨h', w'⟩ := q
          rw [hput] at hm
          subst hm
          exact fun o ho => go o ho
  induction hr with
  | done h1 =>
    intro hh hw
    refine ⟨_, ?_, rfl, hh⟩
    refine Ev.succ ?_
    simp only [spec_l04Heights.l2]
    exact Ev.bind (specLeast_none (by omega) h1) (Ev.ct (dt (by omega)) Ev.pure)
  | bad h1 h2 =>
    intro hh hw
    have := round _ _ _ hh hw h1
    rw [h2] at this
    exact this
  | @go h h' w w' x r h1 h2 h3 ih =>
    intro hh hw
    have hr := round _ _ _ hh hw h1
    rw [h2] at hr
    have hl : h'.length = code.length ∧ w'.length = code.length := by
      unfold stepS at h2
      split at h2
      · split at h2
        · cases h2
        split at h2
        · cases h2
        obtain ⟨i1, i2, -⟩ := putN_inv 0 (A := fun _ => True) (W := fun _ => True) trivial trivial _ _ _ _ _ (show HInv (fun _ => True) (fun _ => True) h (w.set x false) from ⟨by simp; omega, fun _ _ _ => trivial, fun _ _ _ _ => trivial⟩) h2
        exact ⟨by omega, by have := i1.len; omega⟩
      · cases h2
    obtain ⟨o, ho, hm⟩ := ih hl.1 hl.2
    exact ⟨o, hr o ho, hm⟩
def PutRes (fs : List GFunc) (code : List GI2) (L : Nat) (w : List Bool) (o : (List Int × Int × Int) ⊕ (List GFunc × List Int × List Bool × List GI2 × Int)) : Option (List Int × List Bool) → Prop
  | some (h', w') => ∃ L' : Nat, o = .inr (fs, h', w', code, (L' : Int)) ∧ L' ≤ L ∧ ((∀ j : Nat, j < L → w[j]? ≠ some true) → ∀ j : Nat, j < L' → w'[j]? ≠ some true)
  | none => ∃ e, o = .inl e ∧ e.2.2 ≠ 0
theorem implPut (fs : List GFunc) (code : List GI2) (i : GI2) (x : Int) (left v : Int) (hv : IntKind.i64.wrap (left + putsL i) = v) (hlen : code.length < 1099511627776) :
    ∀ (ns pre : List Int) (h : List Int) (w : List Bool) (L : Nat), (∀ n ∈ ns, 0 ≤ n ∧ n ≤ (code.length : Int)) → h.length = code.length → w.length = code.length → (pre ++ ns).length < 1099511627776 →
    ∃ o, Ev (fun k => impl_heightsOf.l4 k fs h w i (pre ++ ns) code x left (L : Int) ((pre ++ ns).length : Int) (pre.length : Int)) o ∧ PutRes fs code L w o (putN code.length v ns h w)
  | [], pre, h, w, L, hns, hh, hw, hp => by
    refine ⟨.inr (fs, h, w, code, (L : Int)), ?_, L, rfl, Nat.le_refl _, fun g => g⟩
    refine Ev.succ ?_
    simp only [impl_heightsOf.l4, List.append_nil]
    exact Ev.cf (df (by omega)) Ev.pure
  | n :: ns, pre, h, w, L, hns, hh, hw, hp => by
    obtain ⟨hn0, hn1⟩ := hns n (by simp)
    have hmid := at_mid pre n ns
    have hl : (pre.length : Int) < ((pre ++ n :: ns).length : Int) := by simp; omega
    by_cases c : (code.length : Int) ≤ n
    · refine ⟨.inl (h, x, 6), ?_, ?_⟩
      · refine Ev.succ ?_
        simp only [impl_heightsOf.l4]
        exact Ev.ct (dt hl) (Ev.idx hmid (Ev.ct (by simp; omega) Ev.pure))
      · simp only [putN, if_pos c]
        exact ⟨_, rfl, by simp⟩
    · obtain ⟨y, hy⟩ := list_get (show n.toNat < h.length by omega)
      obtain ⟨b, hb⟩ := list_get (show n.toNat < w.length by omega)
      have ha5 : Ev (fun k => impl_heightsOf.a5 k fs h w i (pre ++ n :: ns) code x left (L : Int) n ((pre ++ n :: ns).length : Int) (pre.length : Int))
          (if 0 ≤ y ∧ y ≠ v then .inl (h, x, 5) else .inr (fs, h, w, i, pre ++ n :: ns, code, x, left, (L : Int), n, ((pre ++ n :: ns).length : Int), (pre.length : Int))) := by
        unfold impl_heightsOf.a5
        refine Ev.idxI hn0 hy ?_
        by_cases c1 : 0 ≤ y
        · refine Ev.ct (dt c1) (Ev.bind (Ev.const (implPuts i)) ?_)
          rw [hv]
          by_cases c2 : y = v
          · rw [if_neg (by omega)]
            exact Ev.cf (by simp [c2]) Ev.pure
          · rw [if_pos ⟨c1, c2⟩]
            exact Ev.ct (by simp [c2]) Ev.pure
        · rw [if_neg (by omega)]
          exact Ev.cf (df c1) Ev.pure
      have pre' : pre ++ n :: ns = (pre ++ [n]) ++ ns := by simp
      have plen : ((pre.length + 1 : Nat) : Int) = ((pre ++ [n]).length : Int) := by simp
      by_cases c1 : 0 ≤ y
      · by_cases c2 : y = v
        · obtain ⟨o, ho, hm⟩ := implPut fs code i x left v hv hlen ns (pre ++ [n]) h w L (fun m hm => hns m (by simp [hm])) hh hw (by rw [← pre']; exact hp)
          refine ⟨o, ?_, ?_⟩
          · refine Ev.succ ?_
            simp only [impl_heightsOf.l4]
            refine Ev.ct (dt hl) (Ev.idx hmid (Ev.cf (by simp; omega) (Ev.bind ha5 ?_)))
            rw [if_neg (by omega)]
            simp only [Sum.elim_inr]
            refine Ev.idxI hn0 hy (Ev.cf (df (by omega)) ?_)
            rw [wrap_nat (by simp at hp; omega), plen, pre']
            exact ho
          · simp only [putN, if_neg c, hy, if_pos c1, if_pos c2]
            exact hm
        · refine ⟨.inl (h, x, 5), ?_, ?_⟩
          · refine Ev.succ ?_
            simp only [impl_heightsOf.l4]
            refine Ev.ct (dt hl) (Ev.idx hmid (Ev.cf (by simp; omega) (Ev.bind ha5 ?_)))
            rw [if_pos ⟨c1, c2⟩]
            exact Ev.pure
          · simp only [putN, if_neg c, hy, if_pos c1, if_neg c2]
            exact ⟨_, rfl, by simp⟩
      · obtain ⟨o, ho, hm⟩ := implPut fs code i x left v hv hlen ns (pre ++ [n]) (h.set n.toNat v) (w.set n.toNat true) (min n.toNat L) (fun m hm => hns m (by simp [hm])) (by simpa using hh) (by simpa using hw) (by rw [← pre']; exact hp)
        refine ⟨o, ?_, ?_⟩
        · refine Ev.succ ?_
          simp only [impl_heightsOf.l4]
          refine Ev.ct (dt hl) (Ev.idx hmid (Ev.cf (by simp; omega) (Ev.bind ha5 ?_)))
          rw [if_neg (by omega)]
          simp only [Sum.elim_inr]
          refine Ev.idxI hn0 hy (Ev.ct (dt (by omega)) (Ev.bind (Ev.const (implPuts i)) (Ev.idxI hn0 hb ?_)))
          rw [hv, wrap_nat (by simp at hp; omega), plen, pre']
          have : (if decide (n < (L : Int)) = true then n else (L : Int)) = ((min n.toNat L : Nat) : Int) := by
            by_cases d : n < (L : Int)
            · rw [if_pos (by simpa using d)]; omega
            · rw [if_neg (by simpa using d)]; omega
          rw [this]
          exact ho
        · simp only [putN, if_neg c, hy, if_neg c1]
          revert hm
          cases putN code.length v ns (h.set n.toNat v) (w.set n.toNat true) with
          | none => exact fun hm => hm
          | some q =>
            rintro ⟨L', h1, h2, h3⟩
            refine ⟨L', h1, by omega, fun g => h3 fun j hj => ?_⟩
            rw [List.getElem?_set_ne (by omega)]
            exact g j (by omega)
def ImplRes (code : List GI2) (o : (List Int × Int × Int) ⊕ List Int) : Option (List Int) → Prop
  | some hf => o = .inr hf ∧ hf.length = code.length
  | none => ∃ e, o = .inl e ∧ e.2.2 ≠ 0
theorem implSkip (p : GProgram) (code : List GI2) (hlen : code.length < 1099511627) (h : List Int) (w : List Bool) (hw : w.length = code.length) (o : (List Int × Int × Int) ⊕ List Int) : ∀ (d x y : Nat), y - x = d → x ≤ y → y ≤ code.length → (∀ j : Nat, x ≤ j → j < y → w[j]? ≠ some true) →
    Ev (fun k => impl_heightsOf.l2 k p.funcs h w code (y : Int)) o → Ev (fun k => impl_heightsOf.l2 k p.funcs h w code (x : Int)) o := by
  intro d
  induction d with
  | zero =>
    intro x y hd hxy hy hj ho
    have : x = y := by omega
    subst this
    exact ho
  | succ d ih =>
    intro x y hd hxy hy hj ho
    have h1 := ih (x + 1) y (by omega) (by omega) hy (fun j h1 h2 => hj j (by omega) h2) ho
    obtain ⟨b, hb⟩ := list_get (show x < w.length by omega)
    have : b = false := by
      have := hj x (Nat.le_refl _) (by omega)
      rw [hb] at this
      cases b
      · rfl
      · exact absurd rfl this
    subst this
    refine Ev.succ ?_
    simp only [impl_heightsOf.l2]
    refine Ev.ct (dt (by omega)) (Ev.idx hb (Ev.ct rfl ?_))
    rw [wrap_nat (by omega)]
    exact h1
theorem nextL_in {code : List GI2} (hj : JumpsOk code) {i : GI2} {x : Nat} (hi : code[x]? = some i) : ∀ n ∈ nextL i (x : Int), 0 ≤ n ∧ n ≤ (code.length : Int) := by
  intro n hn
  have hx := (List.getElem?_eq_some_iff.1 hi).1
  refine ⟨nextL_pos hj (List.mem_of_getElem? hi) x n hn, ?_⟩
  unfold nextL at hn
  split at hn
  · cases hn
  split at hn
  · simp at hn; subst hn; have := (hj i (List.mem_of_getElem? hi) (.inl ‹_›)).2; omega
  split at hn
  · simp at hn
    rcases hn with rfl | rfl
    · omega
    · have := (hj i (List.mem_of_getElem? hi) (.inr ‹_›)).2; omega
  · simp at hn; omega
theorem implRun (p : GProgram) (code : List GI2) (hj : JumpsOk code) (hlen : code.length < 1000000) {h : List Int} {w : List Bool} {r : Option (List Int)} (hr : HRun (stepI p code) h w r) :
    h.length = code.length → w.length = code.length → ∀ x : Nat, x ≤ code.length → (∀ j : Nat, j < x → w[j]? ≠ some true) → ∃ o, Ev (fun k => impl_heightsOf.l2 k p.funcs h w code (x : Int)) o ∧ ImplRes code o r := by
  have round : ∀ (h : List Int) (w : List Bool) (x : Nat), h.length = code.length → w.length = code.length → Least w x →
      match stepI p code x h w with
      | none => ∃ o, Ev (fun k => impl_heightsOf.l2 k p.funcs h w code (x : Int)) o ∧ ∃ e, o = .inl e ∧ e.2.2 ≠ 0
      | some (h', w') => ∃ L' : Nat, L' ≤ x ∧ (∀ j : Nat, j < L' → w'[j]? ≠ some true) ∧ ∀ o, Ev (fun k => impl_heightsOf.l2 k p.funcs h' w' code (L' : Int)) o → Ev (fun k => impl_heightsOf.l2 k p.funcs h w code (x : Int)) o := by
    intro h w x hh hw hx
    have hxw := (List.getElem?_eq_some_iff.1 hx.1).1
    obtain ⟨i, hi⟩ := list_get (show x < code.length by omega)
    obtain ⟨y, hy⟩ := list_get (show x < h.length by omega)
    generalize hq : IntKind.i64.wrap (y - takesL p i) = q
    generalize hv : IntKind.i64.wrap (q + putsL i) = v
    have ha3 : Ev (fun k => impl_heightsOf.a3 k p.funcs h (w.set x false) i code (x : Int) q) (if q < 0 ∨ 8 < v then .inl (h, (x : Int), 5) else .inr (p.funcs, h, w.set x false, i, code, (x : Int), q)) := by
      unfold impl_heightsOf.a3
      by_cases c1 : q < 0
      · rw [if_pos (.inl c1)]; exact Ev.ct (dt c1) Ev.pure
      · refine Ev.cf (df c1) (Ev.bind (Ev.const (implPuts i)) ?_)
        rw [hv]
        by_cases c2 : 8 < v
        · rw [if_pos (.inr c2)]; exact Ev.ct (dt c2) Ev.pure
        · rw [if_neg (by omega)]; exact Ev.cf (df c2) Ev.pure
    unfold stepI
    simp only [hi, hy, hq, hv]
    by_cases c : q < 0 ∨ 8 < v
    · have : (if q < 0 then none else if 8 < v then none else putN code.length v (nextL i x) h (w.set x false)) = none := by
        rcases c with c | c
        · rw [if_pos c]
        · by_cases d : q < 0
          · rw [if_pos d]
          · rw [if_neg d, if_pos c]
      rw [this]
      refine ⟨.inl (h, (x : Int), 5), ?_, _, rfl, by simp⟩
      refine Ev.succ ?_
      simp only [impl_heightsOf.l2]
      refine Ev.ct (dt (by omega)) (Ev.idx hx.1 (Ev.cf rfl (Ev.idx hi (Ev.idx hy ?_))))
      simp only [implTakes, Option.bind_some, Int.toNat_natCast, hq]
      refine Ev.bind ha3 ?_
      rw [if_pos c]
      exact Ev.pure
    · rw [if_neg (by omega), if_neg (by omega)]
      obtain ⟨o, ho, hm⟩ := implPut p.funcs code i (x : Int) q v hv (by omega) (nextL i x) [] h (w.set x false) x (nextL_in hj hi) hh (by simpa using hw) (by have := nextL_length i x; simp; omega)
      have go : ∀ o', Ev (fun k => (Sum.elim (fun o4l => some (.inl (o4l.1, o4l.2.1, o4l.2.2))) (fun o4r => impl_heightsOf.l2 k o4r.1 o4r.2.1 o4r.2.2.1 o4r.2.2.2.1 o4r.2.2.2.2) o : Option ((List Int × Int × Int) ⊕ List Int))) o' → Ev (fun k => impl_heightsOf.l2 k p.funcs h w code (x : Int)) o' := by
        intro o' h'
        refine Ev.succ ?_
        simp only [impl_heightsOf.l2]
        refine Ev.ct (dt (by omega)) (Ev.idx hx.1 (Ev.cf rfl (Ev.idx hi (Ev.idx hy ?_))))
        simp only [implTakes, Option.bind_some, Int.toNat_natCast, hq]
        refine Ev.bind ha3 ?_
        rw [if_neg c]
        simp only [Sum.elim_inr, implNext i x (by omega), Option.bind_some]
        exact Ev.bind ho h'
      cases hput : putN code.length v (nextL i x) h (w.set x false) with
      | none =>
        rw [hput] at hm
        obtain ⟨e, rfl, he⟩ := hm
        exact ⟨.inl e, go _ Ev.pure, e, rfl, he⟩
      | some z =>
        obtain ⟨h', w'⟩ := z
        rw [hput] at hm
        obtain ⟨L', rfl, h2, h3⟩ := hm
        refine ⟨L', h2, h3 fun j hj => ?_, fun o ho => go o ho⟩
        rw [List.getElem?_set_ne (by omega)]
        exact hx.2 j hj
  induction hr with
  | @done h w h1 =>
    intro hh hw x hx hj
    refine ⟨.inr h, implSkip p code (by omega) h w hw _ _ x code.length rfl hx (Nat.le_refl _) (fun j _ _ => h1 j) ?_, rfl, hh⟩
    refine Ev.succ ?_
    simp only [impl_heightsOf.l2]
    exact Ev.cf (df (by omega)) Ev.pure
  | @bad h w y h1 h2 =>
    intro hh hw x hx hj
    have hyw := (List.getElem?_eq_some_iff.1 h1.1).1
    have hxy : x ≤ y := by
      rcases Nat.lt_or_ge y x with hlt | hge
      · exact absurd h1.1 (hj y hlt)
      · exact hge
    have := round _ _ _ hh hw h1
    rw [h2] at this
    obtain ⟨o, ho, he⟩ := this
    exact ⟨o, implSkip p code (by omega) h w hw _ _ x y rfl hxy (by omega) (fun j _ hj2 => h1.2 j hj2) ho, he⟩
  | @go h h' w w' y r h1 h2 h3 ih =>
    intro hh hw x hx hj
    have hyw := (List.getElem?_eq_some_iff.1 h1.1).1
    have hxy : x ≤ y := by
      rcases Nat.lt_or_ge y x with hlt | hge
      · exact absurd h1.1 (hj y hlt)
      · exact hge
    have hr := round _ _ _ hh hw h1
    rw [h2] at hr
    obtain ⟨L', l1, l2, l3⟩ := hr
    have hl : h'.length = code.length ∧ w'.length = code.length := by
      unfold stepI at h2
      split at h2
      · split at h2
        · cases h2
        split at h2
        · cases h2
        obtain ⟨i1, i2, -⟩ := putN_inv 0 (A := fun _ => True) (W := fun _ => True) trivial trivial _ _ _ _ _ (show HInv (fun _ => True) (fun _ => True) h (w.set y false) from ⟨by simp; omega, fun _ _ _ => trivial, fun _ _ _ _ => trivial⟩) h2
        exact ⟨by omega, by have := i1.len; omega⟩
      · cases h2
    obtain ⟨o, ho, hm⟩ := ih hl.1 hl.2 L' (by omega) l2
    exact ⟨o, implSkip p code (by omega) h w hw _ _ x y rfl hxy (by omega) (fun j _ hj2 => h1.2 j hj2) (l3 o ho), hm⟩
end Go.Proofs.YtfdgjiifeijjfaaGreatDoor
namespace Go.Proofs.YtfdgjiifeijjfaaGreatDoor
open Go.Proofs Go.Proofs.YtfdgjiifeijjfaaGreatDoor.L
set_option linter.unusedVariables false
set_option linter.unusedSimpArgs false
set_option maxRecDepth 10000
def opKnown (a : Int) : Bool := decide ((1 ≤ a ∧ a ≤ 5) ∨ (10 ≤ a ∧ a ≤ 38))
def insOk (p : GProgram) (m : GFunc) (i : GI2) : Bool :=
  if i.a = 1 then true else if i.a = 2 ∨ i.a = 3 then decide (0 ≤ i.b ∧ i.b < m.locals) else if i.a = 30 ∨ i.a = 31 then decide (0 ≤ i.b ∧ i.b < (m.code.length : Int))
  else if i.a = 32 then decide (0 ≤ i.b ∧ i.b < (p.funcs.length : Int)) else (opKnown i.a && (i.b == 0))
theorem specOp (k : Nat) (a : Int) : ∃ t, spec_OpName k a = some t ∧ (t.toList == (⟨#[]⟩ : ByteArray).toList) = !opKnown a := by
  rcases op_cases a with (rfl | rfl | rfl | rfl | rfl | rfl | rfl | rfl | rfl | rfl | rfl | rfl | rfl | rfl | rfl | rfl | rfl | rfl | rfl | rfl | rfl | rfl | rfl | rfl | rfl | rfl | rfl | rfl | rfl | rfl | rfl | rfl | rfl | rfl | rfl | rfl | rfl | rfl | rfl) | h
  all_goals (try exact ⟨_, rfl, by decide +kernel⟩)
  refine ⟨⟨#[]⟩, ?_, ?_⟩
  · unfold spec_OpName spec_OpName.a1
    rcases h with h | h
    · simp [show ¬ 1 ≤ a by omega, show ¬ 10 ≤ a by omega]
    · simp [show 1 ≤ a by omega, show ¬ a ≤ 5 by omega, show 10 ≤ a by omega, show ¬ a ≤ 38 by omega]
  · have : opKnown a = false := by unfold opKnown; rw [decide_eq_false_iff_not]; omega
    rw [this]; simp
theorem implOp (a : Int) : ∃ t, impl_OpName a = some t ∧ (t.toList == (⟨#[]⟩ : ByteArray).toList) = !opKnown a := by
  rcases op_cases a with (rfl | rfl | rfl | rfl | rfl | rfl | rfl | rfl | rfl | rfl | rfl | rfl | rfl | rfl | rfl | rfl | rfl | rfl | rfl | rfl | rfl | rfl | rfl | rfl | rfl | rfl | rfl | rfl | rfl | rfl | rfl | rfl | rfl | rfl | rfl | rfl | rfl | rfl | rfl) | h
  all_goals (try exact ⟨_, rfl, by decide +kernel⟩)
  refine ⟨⟨#[]⟩, ?_, ?_⟩
  · unfold impl_OpName impl_in
    rcases h with h | h
    · simp [show ¬ 0 ≤ a by omega]
    · simp [show 0 ≤ a by omega, show ¬ a ≤ 38 by omega]
  · have : opKnown a = false := by unfold opKnown; rw [decide_eq_false_iff_not]; omega
    rw [this]; simp
theorem specIns (k : Nat) {p : GProgram} {f : Nat} {m : GFunc} (hm : p.funcs[f]? = some m) (i : GI2) : spec_InsRight k p (f : Int) i = some (insOk p m i) := by
  obtain ⟨a, b⟩ := i
  have hf := (List.getElem?_eq_some_iff.1 hm).1
  obtain ⟨t, ht, hk⟩ := specOp k a
  unfold spec_InsRight spec_InsRight.a1 spec_InsRight.a2 spec_InsRight.a3 spec_InsRight.a4 insOk
  simp only [show ¬ (f : Int) < 0 by omega, show ¬ (f : Int) ≥ (p.funcs.length : Int) by omega, decide_false, cond_false, Option.bind_some, Sum.elim_inr, idx_nat, hm, ht, hk]
  by_cases h1 : a = 1
  · simp [h1]
  have e1 : (a == 1) = false := by simpa using h1
  by_cases h2 : a = 2
  · by_cases hb : 0 ≤ b <;> simp [h2, hb, idx_nat, hm]
  have e2 : (a == 2) = false := by simpa using h2
  by_cases h3 : a = 3
  · by_cases hb : 0 ≤ b <;> simp [h3, hb, idx_nat, hm]
  have e3 : (a == 3) = false := by simpa using h3
  by_cases h4 : a = 30
  · by_cases hb : 0 ≤ b <;> simp [h4, hb, idx_nat, hm]
  have e4 : (a == 30) = false := by simpa using h4
  by_cases h5 : a = 31
  · by_cases hb : 0 ≤ b <;> simp [h5, hb, idx_nat, hm]
  have e5 : (a == 31) = false := by simpa using h5
  by_cases h6 : a = 32
  · by_cases hb : 0 ≤ b <;> simp [h6, hb, idx_nat, hm]
  have e6 : (a == 32) = false := by simpa using h6
  simp only [e1, e2, e3, e4, e5, e6, h1, h2, h3, h4, h5, h6, cond_false, Option.bind_some, Sum.elim_inr, if_false, or_self]
  simp only [ht, hk, Option.bind_some, Bool.not_not]
  cases opKnown a <;> simp
theorem implIns (k : Nat) {p : GProgram} {f : Nat} {m : GFunc} (hm : p.funcs[f]? = some m) (i : GI2) : impl_InsRight k p (f : Int) i = some (insOk p m i) := by
  obtain ⟨a, b⟩ := i
  have hf := (List.getElem?_eq_some_iff.1 hm).1
  obtain ⟨t, ht, hk⟩ := implOp a
  unfold impl_InsRight impl_InsRight.a1 impl_InsRight.a2 impl_InsRight.a3 impl_hasFunc insOk
  simp only [show (f : Int) ≥ 0 by omega, show (f : Int) < (p.funcs.length : Int) by omega, decide_true, cond_true, cond_false, Bool.not_true, Option.bind_some, Sum.elim_inr, idx_nat, hm, ht, hk]
  by_cases h1 : a = 1
  · simp [h1]
  have e1 : (a == 1) = false := by simpa using h1
  by_cases h2 : a = 2
  · by_cases hb : 0 ≤ b <;> simp [h2, hb, idx_nat, hm]
  have e2 : (a == 2) = false := by simpa using h2
  by_cases h3 : a = 3
  · by_cases hb : 0 ≤ b <;> simp [h3, hb, idx_nat, hm]
  have e3 : (a == 3) = false := by simpa using h3
  by_cases h4 : a = 30
  · by_cases hb : 0 ≤ b <;> simp [h4, hb, idx_nat, hm]
  have e4 : (a == 30) = false := by simpa using h4
  by_cases h5 : a = 31
  · by_cases hb : 0 ≤ b <;> simp [h5, hb, idx_nat, hm]
  have e5 : (a == 31) = false := by simpa using h5
  by_cases h6 : a = 32
  · by_cases hb : 0 ≤ b <;> simp [h6, hb, idx_nat, hm]
  have e6 : (a == 32) = false := by simpa using h6
  simp only [e1, e2, e3, e4, e5, e6, h1, h2, h3, h4, h5, h6, cond_false, Option.bind_some, Sum.elim_inr, if_false, or_self]
  simp only [ht, hk, Option.bind_some, Bool.not_not]
  cases opKnown a <;> simp
theorem insOk_jump {p : GProgram} {m : GFunc} {i : GI2} (h : insOk p m i = true) (hj : i.a = 30 ∨ i.a = 31) : 0 ≤ i.b ∧ i.b < (m.code.length : Int) := by
  unfold insOk at h
  rw [if_neg (by omega), if_neg (by omega), if_pos hj] at h
  simpa using h
def h0 (n : Nat) : List Int := (List.replicate n (-1)).set 0 0
def w0 (n : Nat) : List Bool := (List.replicate n false).set 0 true
theorem h0_len (n : Nat) : (h0 n).length = n := by simp [h0]
theorem w0_len (n : Nat) : (w0 n).length = n := by simp [w0]
theorem h0_inv {A W : Int → Prop} (n : Nat) (a1 : A (-1)) (a0 : A 0) (hw : W 0) : HInv A W (h0 n) (w0 n) := by
  refine ⟨by rw [h0_len, w0_len], fun j x hx => ?_, fun j x hx hj => ?_⟩
  · by_cases e : 0 = j
    · subst e
      unfold h0 at hx
      by_cases hn : 0 < n
      · rw [List.getElem?_set_self (by simpa using hn)] at hx; cases hx; exact a0
      · rw [List.getElem?_eq_none (by simp; omega)] at hx; cases hx
    · unfold h0 at hx
      rw [List.getElem?_set_ne e, List.getElem?_replicate] at hx
      split at hx
      · cases hx; exact a1
      · cases hx
  · by_cases e : 0 = j
    · subst e
      unfold h0 at hx
      by_cases hn : 0 < n
      · rw [List.getElem?_set_self (by simpa using hn)] at hx; cases hx; exact hw
      · rw [List.getElem?_eq_none (by simp; omega)] at hx; cases hx
    · unfold w0 at hj
      rw [List.getElem?_set_ne e, List.getElem?_replicate] at hj
      split at hj <;> cases hj
theorem specFill (fs : List GFunc) (z : GI3) (f : Int) (code : List GI2) (n : Nat) (hn : n < 1000000) : ∀ (d i : Nat) (acc : List Int), n - i = d → i ≤ n → acc.length = n → (∀ j : Nat, j < i → acc[j]? = some (-1)) →
    Ev (fun k => spec_l04Heights.l1 k fs z acc f code (i : Int)) (fs, z, List.replicate n (-1), f, code) := by
  intro d
  induction d with
  | zero =>
    intro i acc hd hi ha hj
    have : acc = List.replicate n (-1) := by
      apply List.ext_getElem?
      intro j
      rcases Nat.lt_or_ge j n with h | h
      · rw [hj j (by omega), List.getElem?_replicate, if_pos h]
      · rw [List.getElem?_eq_none (by omega), List.getElem?_eq_none (by simp; omega)]
    rw [this]
    refine Ev.succ ?_
    simp only [spec_l04Heights.l1]
    exact Ev.cf (df (by simp; omega)) Ev.pure
  | succ d ih =>
    intro i acc hd hi ha hj
    obtain ⟨m, hm⟩ := list_get (show i < acc.length by omega)
    refine Ev.succ ?_
    simp only [spec_l04Heights.l1]
    refine Ev.ct (dt (by omega)) (Ev.idx hm ?_)
    rw [wrap_nat (by omega), Int.toNat_natCast]
    refine ih (i + 1) _ (by omega) (by omega) (by simpa using ha) (fun j hji => ?_)
    by_cases e : i = j
    · subst e; rw [List.getElem?_set_self (by omega)]
    · rw [List.getElem?_set_ne e]; exact hj j (by omega)
theorem implFill (fs : List GFunc) (w : List Bool) (code : List GI2) (n : Nat) (hn : n < 1000000) : ∀ (d i : Nat) (acc : List Int), n - i = d → i ≤ n → acc.length = n → (∀ j : Nat, j < i → acc[j]? = some (-1)) →
    Ev (fun k => impl_heightsOf.l1 k fs acc w code (n : Int) (i : Int)) (fs, List.replicate n (-1), w, code) := by
  intro d
  induction d with
  | zero =>
    intro i acc hd hi ha hj
    have : acc = List.replicate n (-1) := by
      apply List.ext_getElem?
      intro j
      rcases Nat.lt_or_ge j n with h | h
      · rw [hj j (by omega), List.getElem?_replicate, if_pos h]
      · rw [List.getElem?_eq_none (by omega), List.getElem?_eq_none (by simp; omega)]
    rw [this]
    refine Ev.succ ?_
    simp only [impl_heightsOf.l1]
    exact Ev.cf (df (by omega)) Ev.pure
  | succ d ih =>
    intro i acc hd hi ha hj
    obtain ⟨m, hm⟩ := list_get (show i < acc.length by omega)
    refine Ev.succ ?_
    simp only [impl_heightsOf.l1]
    refine Ev.ct (dt (by omega)) (Ev.idx hm ?_)
    rw [wrap_nat (by omega), Int.toNat_natCast]
    refine ih (i + 1) _ (by omega) (by omega) (by simpa using ha) (fun j hji => ?_)
    by_cases e : i = j
    · subst e; rw [List.getElem?_set_self (by omega)]
    · rw [List.getElem?_set_ne e]; exact hj j (by omega)
theorem rep_get {α : Type} {n : Nat} {x : α} (h : 1 ≤ n) : (List.replicate n x)[(0 : Int).toNat]? = some x := by
  rw [List.getElem?_replicate, if_pos (by simp; omega)]
theorem specHeights {p : GProgram} {f : Nat} {m : GFunc} (hm : p.funcs[f]? = some m) (hj : JumpsOk m.code) (h1 : 1 ≤ m.code.length) (h2 : m.code.length ≤ 60) {r : Option (List Int)}
    (hr : HRun (stepS p m.code) (h0 m.code.length) (w0 m.code.length) r) : ∃ o, Ev (fun k => spec_l04Heights k p (f : Int)) o ∧ SpecRes m.code o r := by
  obtain ⟨o, ho, hres⟩ := specRun p (f : Int) m.code ⟨0, 0, 0⟩ hj (by omega) hr (h0_len _) (w0_len _)
  refine ⟨o, ?_, hres⟩
  unfold spec_l04Heights
  refine Ev.idx hm (Ev.gd ⟨by omega, by omega, by omega⟩ (Ev.bind (specFill p.funcs ⟨0, 0, 0⟩ (f : Int) m.code m.code.length (by omega) _ 0 _ rfl (by omega) (by simp) (fun j hj => by omega)) ?_))
  refine Ev.idxI (by omega) (rep_get h1) (Ev.gd ⟨by simp, by simp; omega, by simp; omega⟩ (Ev.idxI (by omega) (rep_get h1) (Ev.bind ho Ev.pure)))
def HRes (code : List GI2) (o : List Int × Int × Int) : Option (List Int) → Prop
  | some hf => o = (hf, 0, 0) ∧ hf.length = code.length
  | none => o.2.2 ≠ 0
theorem implHeights {p : GProgram} {f : Nat} {m : GFunc} (hm : p.funcs[f]? = some m) (hj : JumpsOk m.code) (h1 : 1 ≤ m.code.length) (h2 : m.code.length ≤ 60) {r : Option (List Int)}
    (hr : HRun (stepI p m.code) (h0 m.code.length) (w0 m.code.length) r) : ∃ o, Ev (fun k => impl_heightsOf k p (f : Int)) o ∧ HRes m.code o r := by
  obtain ⟨o, ho, hres⟩ := implRun p m.code hj (by omega) hr (h0_len _) (w0_len _) 0 (by omega) (fun j hj => by omega)
  have key : ∀ o', (Ev (fun _ => (Sum.elim (fun o2l => some (o2l.1, o2l.2.1, o2l.2.2)) (fun o2r => some (o2r, 0, 0)) o : Option (List Int × Int × Int))) o') → Ev (fun k => impl_heightsOf k p (f : Int)) o' := by
    intro o' h'
    unfold impl_heightsOf
    refine Ev.idx hm (Ev.gd ⟨by omega, by omega, by omega⟩ (Ev.gd ⟨by omega, by omega, by omega⟩ (Ev.bind (implFill p.funcs _ m.code m.code.length (by omega) _ 0 _ rfl (by omega) (by simp) (fun j hj => by omega)) ?_)))
    exact Ev.idxI (by omega) (rep_get h1) (Ev.idxI (by omega) (rep_get h1) (Ev.bind ho h'))
  cases r with
  | none =>
    obtain ⟨e, rfl, he⟩ := hres
    exact ⟨_, key _ Ev.pure, he⟩
  | some hf =>
    obtain ⟨rfl, hl⟩ := hres
    exact ⟨_, key _ Ev.pure, rfl, hl⟩
theorem heights_both {p : GProgram} (ha : Args64 p) {f : Nat} {m : GFunc} (hm : p.funcs[f]? = some m) (hj : JumpsOk m.code) (h1 : 1 ≤ m.code.length) (h2 : m.code.length ≤ 60) :
    ∃ rI rS oI oS, HRun (stepI p m.code) (h0 m.code.length) (w0 m.code.length) rI ∧ Ev (fun k => impl_heightsOf k p (f : Int)) oI ∧ HRes m.code oI rI ∧ Ev (fun k => spec_l04Heights k p (f : Int)) oS ∧ SpecRes m.code oS rS ∧ (Normal p → rI = rS ∧ HRun (stepN p m.code) (h0 m.code.length) (w0 m.code.length) rI) := by
  obtain ⟨rI, hI⟩ := run_ex (goodI p m.code ha) _ _ _ rfl (h0_len _) (h0_inv m.code.length (by omega) (by omega) (by omega))
  obtain ⟨rS, hS⟩ := run_ex (goodS p m.code ha) _ _ _ rfl (h0_len _) (h0_inv m.code.length (by omega) (by omega) (by omega))
  obtain ⟨oI, e1, e2⟩ := implHeights hm hj h1 h2 hI
  obtain ⟨oS, e3, e4⟩ := specHeights hm hj h1 h2 hS
  refine ⟨rI, rS, oI, oS, hI, e1, e2, e3, e4, fun hN => ?_⟩
  have hi : HInv A1 W1 (h0 m.code.length) (w0 m.code.length) := h0_inv m.code.length (by omega) (by omega) (by omega)
  have i1 := run_N hN (fun x h w hh hw => stepI_N hN hh hw) hI hi
  have i2 := run_N hN (fun x h w hh hw => stepS_N hN hh hw) hS hi
  exact ⟨run_same i1 i2, i1⟩
end Go.Proofs.YtfdgjiifeijjfaaGreatDoor
namespace Go.Proofs.YtfdgjiifeijjfaaGreatDoor
open Go.Proofs Go.Proofs.YtfdgjiifeijjfaaGreatDoor.L
set_option linter.unusedVariables false
set_option linter.unusedSimpArgs false
structure FormOk (p : GProgram) (m : GFunc) : Prop where
  args : 0 ≤ m.args ∧ m.args ≤ 4
  locals : m.args ≤ m.locals ∧ m.locals ≤ 8
  code : 1 ≤ m.code.length ∧ m.code.length ≤ 60
  ins : ∀ i ∈ m.code, insOk p m i = true
theorem FormOk.jumps {p : GProgram} {m : GFunc} (h : FormOk p m) : JumpsOk m.code := fun i hi hj => insOk_jump (h.ins i hi) hj
abbrev RunI (p : GProgram) (m : GFunc) (r : Option (List Int)) : Prop := HRun (stepI p m.code) (h0 m.code.length) (w0 m.code.length) r
abbrev RunS (p : GProgram) (m : GFunc) (r : Option (List Int)) : Prop := HRun (stepS p m.code) (h0 m.code.length) (w0 m.code.length) r
abbrev RunN (p : GProgram) (m : GFunc) (r : Option (List Int)) : Prop := HRun (stepN p m.code) (h0 m.code.length) (w0 m.code.length) r
theorem ins_from {p : GProgram} {m : GFunc} : (∀ i ∈ m.code, insOk p m i = true) ∨ ∃ x i, m.code[x]? = some i ∧ insOk p m i = false ∧ ∀ (y : Nat) (j : GI2), y < x → m.code[y]? = some j → insOk p m j = true := by
  by_cases h : ∀ i ∈ m.code, insOk p m i = true
  · exact .inl h
  · right
    obtain ⟨x, i, hx, hi⟩ : ∃ x i, m.code[x]? = some i ∧ insOk p m i = false := by
      have : ∃ i, i ∈ m.code ∧ insOk p m i = false := by
        refine Classical.byContradiction fun hh => h fun i hi => ?_
        cases e : insOk p m i with
        | true => rfl
        | false => exact absurd ⟨i, hi, e⟩ hh
      obtain ⟨i, hi, he⟩ := this
      obtain ⟨x, hx⟩ := List.getElem?_of_mem hi
      exact ⟨x, i, hx, he⟩
    induction x using Nat.strongRecOn generalizing i with
    | _ x ih =>
      by_cases c : ∃ y j, y < x ∧ m.code[y]? = some j ∧ insOk p m j = false
      · obtain ⟨y, j, hy, hj, he⟩ := c
        exact ih y hy j hj he
      · refine ⟨x, i, hx, hi, fun y j hy hj => ?_⟩
        cases e : insOk p m j with
        | true => rfl
        | false => exact absurd ⟨y, j, hy, hj, e⟩ c
theorem implInsLoop {p : GProgram} {f : Nat} {m : GFunc} (hm : p.funcs[f]? = some m) (hl : m.code.length ≤ 60) (z : GI3) (hs : List (List Int)) (fs : List GFunc) (L J : Int) (h : ∀ i ∈ m.code, insOk p m i = true) : ∀ (d x : Nat), m.code.length - x = d → x ≤ m.code.length →
    Ev (fun k => impl_verify.l5 k p.funcs z hs (f : Int) fs L J m.code (m.code.length : Int) (x : Int)) (.inr (p.funcs, z, hs, (f : Int), fs, L, J)) := by
  intro d
  induction d with
  | zero =>
    intro x hd hx
    refine Ev.succ ?_
    simp only [impl_verify.l5]
    exact Ev.cf (df (by omega)) Ev.pure
  | succ d ih =>
    intro x hd hx
    obtain ⟨i, hi⟩ := list_get (show x < m.code.length by omega)
    refine Ev.succ ?_
    simp only [impl_verify.l5]
    refine Ev.ct (dt (by omega)) (Ev.idx hi (Ev.bind (Ev.of fun k => implIns k hm i) (Ev.cf (by rw [h i (List.mem_of_getElem? hi)]; rfl) ?_)))
    rw [wrap_nat (by omega)]
    exact ih (x + 1) (by omega) (by omega)
theorem implInsBad {p : GProgram} {f : Nat} {m : GFunc} (hm : p.funcs[f]? = some m) (hl : m.code.length ≤ 60) (z : GI3) (hs : List (List Int)) (fs : List GFunc) (L J : Int) {y : Nat} {b : GI2} (hy : m.code[y]? = some b) (hb : insOk p m b = false) (h : ∀ (x : Nat) (j : GI2), x < y → m.code[x]? = some j → insOk p m j = true) : ∀ (d x : Nat), y - x = d → x ≤ y →
    Ev (fun k => impl_verify.l5 k p.funcs z hs (f : Int) fs L J m.code (m.code.length : Int) (x : Int)) (.inl (⟨(f : Int), (y : Int), 1⟩, [])) := by
  have hyl := (List.getElem?_eq_some_iff.1 hy).1
  intro d
  induction d with
  | zero =>
    intro x hd hx
    have : x = y := by omega
    subst this
    refine Ev.succ ?_
    simp only [impl_verify.l5]
    exact Ev.ct (dt (by omega)) (Ev.idx hy (Ev.bind (Ev.of fun k => implIns k hm b) (Ev.ct (by rw [hb]; rfl) Ev.pure)))
  | succ d ih =>
    intro x hd hx
    obtain ⟨i, hi⟩ := list_get (show x < m.code.length by omega)
    refine Ev.succ ?_
    simp only [impl_verify.l5]
    refine Ev.ct (dt (by omega)) (Ev.idx hi (Ev.bind (Ev.of fun k => implIns k hm i) (Ev.cf (by rw [h x i (by omega) hi]; rfl) ?_)))
    rw [wrap_nat (by omega)]
    exact ih (x + 1) (by omega) (by omega)
theorem specInsLoop {p : GProgram} {f : Nat} {m : GFunc} (hm : p.funcs[f]? = some m) (hl : m.code.length ≤ 60) (z : GI3) (A B : Int) (h : ∀ i ∈ m.code, insOk p m i = true) : ∀ (d x : Nat), m.code.length - x = d → x ≤ m.code.length →
    Ev (fun k => spec_l04Func.l2 k p.funcs z A B m.code (f : Int) (x : Int)) (.inr (p.funcs, z, (f : Int))) := by
  intro d
  induction d with
  | zero =>
    intro x hd hx
    refine Ev.succ ?_
    simp only [spec_l04Func.l2]
    exact Ev.cf (df (by omega)) Ev.pure
  | succ d ih =>
    intro x hd hx
    obtain ⟨i, hi⟩ := list_get (show x < m.code.length by omega)
    refine Ev.succ ?_
    simp only [spec_l04Func.l2]
    refine Ev.ct (dt (by omega)) (Ev.idx hi (Ev.bind (Ev.of fun k => specIns k hm i) (Ev.cf (by rw [h i (List.mem_of_getElem? hi)]; rfl) ?_)))
    rw [wrap_nat (by omega)]
    exact ih (x + 1) (by omega) (by omega)
theorem specInsBad {p : GProgram} {f : Nat} {m : GFunc} (hm : p.funcs[f]? = some m) (hl : m.code.length ≤ 60) (z : GI3) (A B : Int) {y : Nat} {b : GI2} (hy : m.code[y]? = some b) (hb : insOk p m b = false) (h : ∀ (x : Nat) (j : GI2), x < y → m.code[x]? = some j → insOk p m j = true) : ∀ (d x : Nat), y - x = d → x ≤ y →
    Ev (fun k => spec_l04Func.l2 k p.funcs z A B m.code (f : Int) (x : Int)) (.inl ⟨(f : Int), (y : Int), 1⟩) := by
  have hyl := (List.getElem?_eq_some_iff.1 hy).1
  intro d
  induction d with
  | zero =>
    intro x hd hx
    have : x = y := by omega
    subst this
    refine Ev.succ ?_
    simp only [spec_l04Func.l2]
    exact Ev.ct (dt (by omega)) (Ev.idx hy (Ev.bind (Ev.of fun k => specIns k hm b) (Ev.ct (by rw [hb]; rfl) Ev.pure)))
  | succ d ih =>
    intro x hd hx
    obtain ⟨i, hi⟩ := list_get (show x < m.code.length by omega)
    refine Ev.succ ?_
    simp only [spec_l04Func.l2]
    refine Ev.ct (dt (by omega)) (Ev.idx hi (Ev.bind (Ev.of fun k => specIns k hm i) (Ev.cf (by rw [h x i (by omega) hi]; rfl) ?_)))
    rw [wrap_nat (by omega)]
    exact ih (x + 1) (by omega) (by omega)
def formB (m : GFunc) : Prop := (0 ≤ m.args ∧ m.args ≤ 4) ∧ (m.args ≤ m.locals ∧ m.locals ≤ 8) ∧ 1 ≤ m.code.length ∧ m.code.length ≤ 60
instance (m : GFunc) : Decidable (formB m) := by unfold formB; exact inferInstance
theorem impl_in_eq (n a b : Int) : impl_in n a b = some (decide (a ≤ n ∧ n ≤ b)) := by
  unfold impl_in
  by_cases h : a ≤ n
  · simp [h]
  · simp [h]
theorem implFunc {p : GProgram} (ha : Args64 p) {f : Nat} {m : GFunc} (hm : p.funcs[f]? = some m) (z : GI3) (L : Int) :
    (∃ e : GI3, e.c ≠ 0 ∧ (∀ h, ¬ (FormOk p m ∧ RunI p m (some h))) ∧ ∀ hs, Ev (fun k => impl_verify.a3 k p.funcs z hs p.funcs L (f : Int)) (.inl (e, []))) ∨
    (∃ h, FormOk p m ∧ RunI p m (some h) ∧ h.length = m.code.length ∧ ∀ hs : List (List Int), hs.length ≤ 100 → Ev (fun k => impl_verify.a3 k p.funcs z hs p.funcs L (f : Int)) (.inr (p.funcs, z, hs ++ [h], p.funcs, L, (f : Int)))) := by
  by_cases hf : formB m
  · obtain ⟨f1, f2, f3, f4⟩ := hf
    have ha4 : ∀ hs, Ev (fun k => impl_verify.a4 k p.funcs z hs m.args m.locals m.code (f : Int) p.funcs L (f : Int)) (.inr (p.funcs, z, hs, m.args, m.locals, m.code, (f : Int), p.funcs, L, (f : Int))) := by
      intro hs
      unfold impl_verify.a4
      simp only [impl_in_eq]
      refine Ev.bind Ev.pure (Ev.cf (by simp; omega) (Ev.bind Ev.pure (Ev.cf (by simp; omega) (Ev.bind Ev.pure (Ev.cf (by simp; omega) Ev.pure)))))
    rcases ins_from (p := p) (m := m) with hi | ⟨y, b, hy, hb, hlt⟩
    · have hF : FormOk p m := ⟨f1, f2, ⟨f3, f4⟩, hi⟩
      obtain ⟨rI, rS, oI, oS, hI, e1, e2, -, -, -⟩ := heights_both ha hm hF.jumps f3 f4
      cases rI with
      | none =>
        left
        refine ⟨⟨(f : Int), oI.2.1, oI.2.2⟩, e2, fun h hh => (by have := run_same hI hh.2; cases this), fun hs => ?_⟩
        unfold impl_verify.a3
        refine Ev.idx hm (Ev.bind (ha4 hs) (Ev.bind (implInsLoop hm f4 z hs p.funcs L (f : Int) hi _ 0 rfl (by omega)) ?_))
        refine Ev.bind e1 (Ev.ct ?_ Ev.pure)
        have e2' : oI.2.2 ≠ 0 := e2
        simpa using e2'
      | some h =>
        right
        obtain ⟨rfl, hl⟩ := e2
        refine ⟨h, hF, hI, hl, fun hs hlen => ?_⟩
        unfold impl_verify.a3
        refine Ev.idx hm (Ev.bind (ha4 hs) (Ev.bind (implInsLoop hm f4 z hs p.funcs L (f : Int) hi _ 0 rfl (by omega)) ?_))
        exact Ev.bind e1 (Ev.cf (by simp) (Ev.gd ⟨by simp only []; omega, by simp only []; omega⟩ Ev.pure))
    · left
      refine ⟨⟨(f : Int), (y : Int), 1⟩, by simp, fun h hh => (by have := hh.1.ins b (List.mem_of_getElem? hy); rw [hb] at this; cases this), fun hs => ?_⟩
      unfold impl_verify.a3
      exact Ev.idx hm (Ev.bind (ha4 hs) (Ev.bind (implInsBad hm f4 z hs p.funcs L (f : Int) hy hb hlt _ 0 rfl (by omega)) Ev.pure))
  · left
    refine ⟨⟨(f : Int), 0, 1⟩, by simp, fun h hh => hf ⟨hh.1.args, hh.1.locals, hh.1.code⟩, fun hs => ?_⟩
    have ha4 : Ev (fun k => impl_verify.a4 k p.funcs z hs m.args m.locals m.code (f : Int) p.funcs L (f : Int)) (.inl (⟨(f : Int), 0, 1⟩, [])) := by
      unfold impl_verify.a4
      simp only [impl_in_eq]
      refine Ev.bind Ev.pure ?_
      by_cases c1 : 0 ≤ m.args ∧ m.args ≤ 4
      · refine Ev.cf (by simp; omega) (Ev.bind Ev.pure ?_)
        by_cases c2 : m.args ≤ m.locals ∧ m.locals ≤ 8
        · refine Ev.cf (by simp; omega) (Ev.bind Ev.pure ?_)
          by_cases c3 : 1 ≤ m.code.length ∧ m.code.length ≤ 60
          · exact absurd ⟨c1, c2, c3⟩ hf
          · exact Ev.ct (by simp; omega) Ev.pure
        · exact Ev.ct (by simp; omega) Ev.pure
      · exact Ev.ct (by simp; omega) Ev.pure
    unfold impl_verify.a3
    exact Ev.idx hm (Ev.bind ha4 Ev.pure)
theorem specFunc {p : GProgram} (ha : Args64 p) {f : Nat} {m : GFunc} (hm : p.funcs[f]? = some m) :
    ∃ o, Ev (fun k => spec_l04Func k p (f : Int)) o ∧ (o.c = 0 ↔ FormOk p m ∧ ∃ h, RunS p m (some h)) := by
  by_cases hf : formB m
  · obtain ⟨f1, f2, f3, f4⟩ := hf
    have ha1 : Ev (fun k => spec_l04Func.a1 k p.funcs ⟨0, 0, 0⟩ m.args m.locals m.code (f : Int)) (.inr (p.funcs, ⟨0, 0, 0⟩, m.args, m.locals, m.code, (f : Int))) := by
      unfold spec_l04Func.a1
      exact Ev.cf (df (by omega)) (Ev.cf (df (by omega)) (Ev.cf (df (by omega)) (Ev.cf (df (by omega)) (Ev.cf (df (by omega)) (Ev.cf (df (by omega)) Ev.pure)))))
    rcases ins_from (p := p) (m := m) with hi | ⟨y, b, hy, hb, hlt⟩
    · have hF : FormOk p m := ⟨f1, f2, ⟨f3, f4⟩, hi⟩
      obtain ⟨rS, hS⟩ := run_ex (goodS p m.code ha) _ _ _ rfl (h0_len _) (h0_inv m.code.length (by omega) (by omega) (by omega))
      obtain ⟨oS, e3, e4⟩ := specHeights hm hF.jumps f3 f4 hS
      refine ⟨oS.2, ?_, ?_⟩
      · unfold spec_l04Func
        exact Ev.idx hm (Ev.bind ha1 (Ev.bind (specInsLoop hm f4 ⟨0, 0, 0⟩ m.args m.locals hi _ 0 rfl (by omega)) (Ev.bind e3 Ev.pure)))
      · cases rS with
        | none =>
          refine ⟨fun h => absurd h e4, fun ⟨_, h, hh⟩ => ?_⟩
          have := run_same hS hh; cases this
        | some h =>
          obtain ⟨rfl, hl⟩ := e4
          exact ⟨fun _ => ⟨hF, h, hS⟩, fun _ => rfl⟩
    · refine ⟨⟨(f : Int), (y : Int), 1⟩, ?_, ?_⟩
      · unfold spec_l04Func
        exact Ev.idx hm (Ev.bind ha1 (Ev.bind (specInsBad hm f4 ⟨0, 0, 0⟩ m.args m.locals hy hb hlt _ 0 rfl (by omega)) Ev.pure))
      · refine ⟨fun h => (by cases h), fun hh => ?_⟩
        have := hh.1.ins b (List.mem_of_getElem? hy); rw [hb] at this; cases this
  · refine ⟨⟨(f : Int), 0, 1⟩, ?_, ⟨fun h => (by cases h), fun hh => absurd ⟨hh.1.args, hh.1.locals, hh.1.code⟩ hf⟩⟩
    have ha1 : Ev (fun k => spec_l04Func.a1 k p.funcs ⟨0, 0, 0⟩ m.args m.locals m.code (f : Int)) (.inl ⟨(f : Int), 0, 1⟩) := by
      unfold spec_l04Func.a1
      by_cases c1 : m.args < 0
      · exact Ev.ct (dt c1) Ev.pure
      refine Ev.cf (df c1) ?_
      by_cases c2 : m.args > 4
      · exact Ev.ct (dt c2) Ev.pure
      refine Ev.cf (df c2) ?_
      by_cases c3 : m.locals < m.args
      · exact Ev.ct (dt c3) Ev.pure
      refine Ev.cf (df c3) ?_
      by_cases c4 : m.locals > 8
      · exact Ev.ct (dt c4) Ev.pure
      refine Ev.cf (df c4) ?_
      by_cases c5 : (m.code.length : Int) < 1
      · exact Ev.ct (dt c5) Ev.pure
      refine Ev.cf (df c5) ?_
      by_cases c6 : (m.code.length : Int) > 60
      · exact Ev.ct (dt c6) Ev.pure
      exact absurd ⟨by omega, by omega, by omega, by omega⟩ hf
    unfold spec_l04Func
    exact Ev.idx hm (Ev.bind ha1 Ev.pure)
structure RightP (p : GProgram) : Prop where
  many : 1 ≤ p.funcs.length ∧ p.funcs.length ≤ 6
  all : ∀ m ∈ p.funcs, FormOk p m ∧ ∃ h, RunN p m (some h)
theorem RightP.normal {p : GProgram} (h : RightP p) : Normal p := fun m hm => (h.all m hm).1.args
structure Hts (p : GProgram) (hs : List (List Int)) : Prop where
  len : hs.length = p.funcs.length
  at_ : ∀ (x : Nat) (m : GFunc), p.funcs[x]? = some m → ∃ h, hs[x]? = some h ∧ RunN p m (some h) ∧ h.length = m.code.length
theorem inv1 (n : Nat) : HInv A1 W1 (h0 n) (w0 n) := h0_inv n (by omega) (by omega) (by omega)
theorem runI_N {p : GProgram} (hN : Normal p) {m : GFunc} {r : Option (List Int)} (h : RunI p m r) : RunN p m r := run_N hN (fun x h w hh hw => stepI_N hN hh hw) h (inv1 _)
theorem runS_N {p : GProgram} (hN : Normal p) {m : GFunc} {r : Option (List Int)} (h : RunS p m r) : RunN p m r := run_N hN (fun x h w hh hw => stepS_N hN hh hw) h (inv1 _)
theorem runN_I {p : GProgram} (ha : Args64 p) (hN : Normal p) {m : GFunc} {r : Option (List Int)} (h : RunN p m r) : RunI p m r := by
  obtain ⟨r', h'⟩ := run_ex (goodI p m.code ha) _ _ _ rfl (h0_len _) (h0_inv m.code.length (by omega) (by omega) (by omega))
  rw [run_same h (runI_N hN h')]
  exact h'
theorem runN_S {p : GProgram} (ha : Args64 p) (hN : Normal p) {m : GFunc} {r : Option (List Int)} (h : RunN p m r) : RunS p m r := by
  obtain ⟨r', h'⟩ := run_ex (goodS p m.code ha) _ _ _ rfl (h0_len _) (h0_inv m.code.length (by omega) (by omega) (by omega))
  rw [run_same h (runS_N hN h')]
  exact h'
theorem implVerLoop {p : GProgram} (ha : Args64 p) (hl : p.funcs.length ≤ 6) (z : GI3) : ∀ (d j : Nat) (hs : List (List Int)), p.funcs.length - j = d → j ≤ p.funcs.length → hs.length = j →
    (∀ (x : Nat) (m : GFunc), x < j → p.funcs[x]? = some m → ∃ h, hs[x]? = some h ∧ FormOk p m ∧ RunI p m (some h) ∧ h.length = m.code.length) →
    (∃ e : GI3, e.c ≠ 0 ∧ (∃ m ∈ p.funcs, ∀ h, ¬ (FormOk p m ∧ RunI p m (some h))) ∧ Ev (fun k => impl_verify.l2 k p.funcs z hs p.funcs (p.funcs.length : Int) (j : Int)) (.inl (e, []))) ∨
    (∃ hs', Ev (fun k => impl_verify.l2 k p.funcs z hs p.funcs (p.funcs.length : Int) (j : Int)) (.inr (z, hs')) ∧ hs'.length = p.funcs.length ∧ ∀ (x : Nat) (m : GFunc), p.funcs[x]? = some m → ∃ h, hs'[x]? = some h ∧ FormOk p m ∧ RunI p m (some h) ∧ h.length = m.code.length) := by
  intro d
  induction d with
  | zero =>
    intro j hs hd hj hlen hall
    right
    refine ⟨hs, ?_, by omega, fun x m hm => hall x m (by have := (List.getElem?_eq_some_iff.1 hm).1; omega) hm⟩
    refine Ev.succ ?_
    simp only [impl_verify.l2]
    exact Ev.cf (df (by omega)) Ev.pure
  | succ d ih =>
    intro j hs hd hj hlen hall
    obtain ⟨m, hm⟩ := list_get (show j < p.funcs.length by omega)
    rcases implFunc ha hm z (p.funcs.length : Int) with ⟨e, he, hno, hev⟩ | ⟨h, hF, hI, hlh, hev⟩
    · left
      refine ⟨e, he, ⟨m, List.mem_of_getElem? hm, hno⟩, ?_⟩
      refine Ev.succ ?_
      simp only [impl_verify.l2]
      exact Ev.ct (dt (by omega)) (Ev.bind (hev hs) Ev.pure)
    · have hall' : ∀ (x : Nat) (m : GFunc), x < j + 1 → p.funcs[x]? = some m → ∃ h', (hs ++ [h])[x]? = some h' ∧ FormOk p m ∧ RunI p m (some h') ∧ h'.length = m.code.length := by
        intro x m' hx hm'
        by_cases c : x < j
        · obtain ⟨h', g1, g2⟩ := hall x m' c hm'
          exact ⟨h', by rw [List.getElem?_append_left (by omega)]; exact g1, g2⟩
        · have : x = j := by omega
          subst this
          rw [hm] at hm'
          cases hm'
          exact ⟨h, by rw [List.getElem?_append_right (by omega)]; simp [hlen], hF, hI, hlh⟩
      have step : ∀ o, Ev (fun k => impl_verify.l2 k p.funcs z (hs ++ [h]) p.funcs (p.funcs.length : Int) ((j + 1 : Nat) : Int)) o → Ev (fun k => impl_verify.l2 k p.funcs z hs p.funcs (p.funcs.length : Int) (j : Int)) o := by
        intro o ho
        refine Ev.succ ?_
        simp only [impl_verify.l2]
        refine Ev.ct (dt (by omega)) (Ev.bind (hev hs (by omega)) ?_)
        simp only [Sum.elim_inr]
        rw [wrap_nat (by omega)]
        exact ho
      rcases ih (j + 1) (hs ++ [h]) (by omega) (by omega) (by simp [hlen]) hall' with ⟨e, h1, h2, h3⟩ | ⟨hs', h1, h2⟩
      · exact .inl ⟨e, h1, h2, step _ h3⟩
      · exact .inr ⟨hs', step _ h1, h2⟩
theorem implVerify {p : GProgram} (ha : Args64 p) (hn : p.funcs.length ≤ 1048576) : ∃ r, Ev (fun k => impl_verify k p) r ∧ ((r.1.c = 0 ∧ RightP p ∧ Hts p r.2) ∨ (r.1.c ≠ 0 ∧ ¬ RightP p)) := by
  by_cases c1 : p.funcs.length < 1
  · refine ⟨(⟨0, 0, 1⟩, []), ?_, .inr ⟨by simp, fun h => by have := h.many; omega⟩⟩
    unfold impl_verify impl_verify.a1
    exact Ev.bind (Ev.ct (dt (by omega)) Ev.pure) Ev.pure
  by_cases c2 : p.funcs.length > 6
  · refine ⟨(⟨0, 0, 1⟩, []), ?_, .inr ⟨by simp, fun h => by have := h.many; omega⟩⟩
    unfold impl_verify impl_verify.a1
    exact Ev.bind (Ev.cf (df (by omega)) (Ev.ct (dt (by omega)) Ev.pure)) Ev.pure
  have ha1 : Ev (fun k => impl_verify.a1 k p.funcs ⟨0, 0, 0⟩) (.inr (p.funcs, ⟨0, 0, 0⟩)) := by
    unfold impl_verify.a1
    exact Ev.cf (df (by omega)) (Ev.cf (df (by omega)) Ev.pure)
  rcases implVerLoop ha (by omega) ⟨0, 0, 0⟩ _ 0 [] rfl (by omega) rfl (fun x m hx => by omega) with ⟨e, h1, ⟨m, hm, hno⟩, h3⟩ | ⟨hs', h1, h2, h3⟩
  · refine ⟨(e, []), ?_, .inr ⟨h1, fun h => ?_⟩⟩
    · unfold impl_verify
      exact Ev.bind ha1 (Ev.bind h3 Ev.pure)
    · obtain ⟨g1, hh, g2⟩ := h.all m hm
      exact hno hh ⟨g1, runN_I ha h.normal g2⟩
  · have hN : Normal p := by
      intro m hm
      obtain ⟨x, hx⟩ := List.getElem?_of_mem hm
      obtain ⟨h, -, g, -⟩ := h3 x m hx
      exact g.args
    refine ⟨(⟨0, 0, 0⟩, hs'), ?_, .inl ⟨rfl, ⟨⟨by omega, by omega⟩, fun m hm => ?_⟩, ⟨h2, fun x m hx => ?_⟩⟩⟩
    · unfold impl_verify
      exact Ev.bind ha1 (Ev.bind h1 Ev.pure)
    · obtain ⟨x, hx⟩ := List.getElem?_of_mem hm
      obtain ⟨h, -, g1, g2, -⟩ := h3 x m hx
      exact ⟨g1, h, runI_N hN g2⟩
    · obtain ⟨h, g0, g1, g2, g3⟩ := h3 x m hx
      exact ⟨h, g0, runI_N hN g2, g3⟩
theorem specVerLoop {p : GProgram} (ha : Args64 p) (hl : p.funcs.length ≤ 6) (z : GI3) : ∀ (d j : Nat), p.funcs.length - j = d → j ≤ p.funcs.length →
    (∃ e : GI3, e.c ≠ 0 ∧ (∃ m ∈ p.funcs, ¬ (FormOk p m ∧ ∃ h, RunS p m (some h))) ∧ Ev (fun k => spec_Verify.l2 k p.funcs z (j : Int)) (.inl e)) ∨
    (Ev (fun k => spec_Verify.l2 k p.funcs z (j : Int)) (.inr z) ∧ ∀ (x : Nat) (m : GFunc), j ≤ x → p.funcs[x]? = some m → FormOk p m ∧ ∃ h, RunS p m (some h)) := by
  intro d
  induction d with
  | zero =>
    intro j hd hj
    right
    refine ⟨?_, fun x m hx hm => by have := (List.getElem?_eq_some_iff.1 hm).1; omega⟩
    refine Ev.succ ?_
    simp only [spec_Verify.l2]
    exact Ev.cf (df (by omega)) Ev.pure
  | succ d ih =>
    intro j hd hj
    obtain ⟨m, hm⟩ := list_get (show j < p.funcs.length by omega)
    obtain ⟨o, ho, hiff⟩ := specFunc ha hm
    by_cases c : o.c = 0
    · have step : ∀ o', Ev (fun k => spec_Verify.l2 k p.funcs z ((j + 1 : Nat) : Int)) o' → Ev (fun k => spec_Verify.l2 k p.funcs z (j : Int)) o' := by
        intro o' ho'
        refine Ev.succ ?_
        simp only [spec_Verify.l2]
        refine Ev.ct (dt (by omega)) (Ev.bind ho (Ev.cf (by simp [c]) ?_))
        rw [wrap_nat (by omega)]
        exact ho'
      rcases ih (j + 1) (by omega) (by omega) with ⟨e, h1, h2, h3⟩ | ⟨h1, h2⟩
      · exact .inl ⟨e, h1, h2, step _ h3⟩
      · refine .inr ⟨step _ h1, fun x m' hx hm' => ?_⟩
        by_cases e : x = j
        · subst e
          rw [hm] at hm'
          cases hm'
          exact hiff.1 c
        · exact h2 x m' (by omega) hm'
    · left
      refine ⟨o, c, ⟨m, List.mem_of_getElem? hm, fun h => c (hiff.2 h)⟩, ?_⟩
      refine Ev.succ ?_
      simp only [spec_Verify.l2]
      exact Ev.ct (dt (by omega)) (Ev.bind ho (Ev.ct (by simp [c]) Ev.pure))
theorem specVerify {p : GProgram} (ha : Args64 p) (hn : p.funcs.length ≤ 1048576) : ∃ s, Ev (fun k => spec_Verify k p) s ∧ (s.c = 0 ↔ RightP p) := by
  by_cases c1 : p.funcs.length < 1
  · refine ⟨⟨0, 0, 1⟩, ?_, ⟨fun h => (by cases h), fun h => by have := h.many; omega⟩⟩
    unfold spec_Verify spec_Verify.a1
    exact Ev.bind (Ev.ct (dt (by omega)) Ev.pure) Ev.pure
  by_cases c2 : p.funcs.length > 6
  · refine ⟨⟨0, 0, 1⟩, ?_, ⟨fun h => (by cases h), fun h => by have := h.many; omega⟩⟩
    unfold spec_Verify spec_Verify.a1
    exact Ev.bind (Ev.cf (df (by omega)) (Ev.ct (dt (by omega)) Ev.pure)) Ev.pure
  have ha1 : Ev (fun k => spec_Verify.a1 k p.funcs ⟨0, 0, 0⟩) (.inr (p.funcs, ⟨0, 0, 0⟩)) := by
    unfold spec_Verify.a1
    exact Ev.cf (df (by omega)) (Ev.cf (df (by omega)) Ev.pure)
  rcases specVerLoop ha (by omega) ⟨0, 0, 0⟩ _ 0 rfl (by omega) with ⟨e, h1, ⟨m, hm, hno⟩, h3⟩ | ⟨h1, h2⟩
  · refine ⟨e, ?_, ⟨fun h => absurd h h1, fun h => ?_⟩⟩
    · unfold spec_Verify
      exact Ev.bind ha1 (Ev.bind h3 Ev.pure)
    · obtain ⟨g1, hh, g2⟩ := h.all m hm
      exact absurd ⟨g1, hh, runN_S ha h.normal g2⟩ hno
  · have hN : Normal p := by
      intro m hm
      obtain ⟨x, hx⟩ := List.getElem?_of_mem hm
      exact (h2 x m (by omega) hx).1.args
    refine ⟨⟨0, 0, 0⟩, ?_, ⟨fun _ => ⟨⟨by omega, by omega⟩, fun m hm => ?_⟩, fun _ => rfl⟩⟩
    · unfold spec_Verify
      exact Ev.bind ha1 (Ev.bind h1 Ev.pure)
    · obtain ⟨x, hx⟩ := List.getElem?_of_mem hm
      obtain ⟨g1, h, g2⟩ := h2 x m (by omega) hx
      exact ⟨g1, h, runS_N hN g2⟩
theorem known_ev {p : GProgram} (ha : Args64 p) (hn : p.funcs.length ≤ 1048576) : ∃ hs ok, Ev (fun k => impl_known k p) (⟨p, hs⟩, ok) ∧ (ok = true ↔ RightP p) ∧ (RightP p → Hts p hs) := by
  obtain ⟨r, hr, h⟩ := implVerify ha hn
  refine ⟨r.2, r.1.c == 0, Ev.bind hr Ev.pure, ?_, ?_⟩
  · rcases h with ⟨h1, h2, -⟩ | ⟨h1, h2⟩
    · simp [h1, h2]
    · simp [h1, h2]
  · intro hp
    rcases h with ⟨-, -, h3⟩ | ⟨-, h2⟩
    · exact h3
    · exact absurd hp h2
theorem hasFunc_eq (p : GProgram) (f : Int) : impl_hasFunc p f = some (decide (0 ≤ f ∧ f < (p.funcs.length : Int))) := by
  unfold impl_hasFunc
  by_cases h : 0 ≤ f
  · simp [h]
  · simp [h]
theorem specIs_ev {p : GProgram} (ha : Args64 p) (hn : p.funcs.length ≤ 1048576) (f : Int) : ∃ ok, Ev (fun k => spec_l04Is k p f) ok ∧ (ok = true ↔ RightP p ∧ 0 ≤ f ∧ f < (p.funcs.length : Int)) := by
  obtain ⟨s, h1, h2⟩ := specVerify ha hn
  have hr : Ev (fun k => spec_l04Right k p) (s.c == 0) := Ev.bind h1 Ev.pure
  by_cases c : s.c = 0
  · refine ⟨decide (0 ≤ f ∧ f < (p.funcs.length : Int)), ?_, by simp [h2.1 c]⟩
    unfold spec_l04Is
    refine Ev.bind hr (Ev.ct (by simp [c]) ?_)
    by_cases h : 0 ≤ f
    · refine Ev.ct (dt h) ?_
      simp only [h, true_and]
      exact Ev.pure
    · refine Ev.cf (df h) ?_
      simp only [h, false_and, decide_false]
      exact Ev.pure
  · have : ¬ RightP p := fun h => c (h2.2 h)
    refine ⟨false, ?_, by simp [this]⟩
    unfold spec_l04Is
    exact Ev.bind hr (Ev.cf (by simp [c]) Ev.pure)
theorem specHeightsN {p : GProgram} (ha : Args64 p) (hp : RightP p) {f : Nat} {m : GFunc} (hm : p.funcs[f]? = some m) {h : List Int} (hr : RunN p m (some h)) : Ev (fun k => spec_l04Heights k p (f : Int)) (h, ⟨0, 0, 0⟩) := by
  have hF := (hp.all m (List.mem_of_getElem? hm)).1
  obtain ⟨o, ho, hres⟩ := specHeights hm hF.jumps hF.code.1 hF.code.2 (runN_S ha hp.normal hr)
  obtain ⟨rfl, -⟩ := hres
  exact ho
def Past (p : GProgram) (code : List GI2) (h : List Int) (x : Nat) (i : GI2) (y : Int) : Prop := takesL p i ≤ y ∧ y - takesL p i + putsL i ≤ 8 ∧ ∀ n ∈ nextL i (x : Int), n < (code.length : Int) ∧ h[n.toNat]? = some (y - takesL p i + putsL i)
theorem putN_keep {len : Nat} {v : Int} (hv : 0 ≤ v) : ∀ (ns : List Int) (h : List Int) (w : List Bool) (h' : List Int) (w' : List Bool), putN len v ns h w = some (h', w') →
    (∀ (j : Nat) (y : Int), h[j]? = some y → 0 ≤ y → h'[j]? = some y) ∧ (∀ (j : Nat), w[j]? = some true → w'[j]? = some true) ∧ (∀ (j : Nat) (y : Int), h'[j]? = some y → 0 ≤ y → h[j]? = some y ∨ w'[j]? = some true ∨ w.length ≤ j) ∧
    (∀ n ∈ ns, n < (len : Int) ∧ h'[n.toNat]? = some v) ∧ w'.length = w.length
  | [], h, w, h', w', hp => by
    simp only [putN, Option.some.injEq, Prod.mk.injEq] at hp
    obtain ⟨rfl, rfl⟩ := hp
    exact ⟨fun _ _ h _ => h, fun _ h => h, fun _ _ h _ => .inl h, fun n hn => (by cases hn), rfl⟩
  | n :: ns, h, w, h', w', hp => by
    simp only [putN] at hp
    split at hp
    · cases hp
    rename_i hlt
    split at hp
    · cases hp
    rename_i x hx
    split at hp
    · split at hp
      · rename_i h0x hxv
        obtain ⟨g1, g2, g3, g4, g5⟩ := putN_keep hv ns h w h' w' hp
        refine ⟨g1, g2, g3, fun m hm => ?_, g5⟩
        rcases List.mem_cons.1 hm with rfl | hm
        · exact ⟨by omega, by rw [← hxv]; exact g1 _ _ hx h0x⟩
        · exact g4 m hm
      · cases hp
    · rename_i hneg
      obtain ⟨g1, g2, g3, g4, g5⟩ := putN_keep hv ns _ _ h' w' hp
      have hn := (List.getElem?_eq_some_iff.1 hx).1
      refine ⟨fun j y hj hy => ?_, fun j hj => ?_, fun j y hj hy => ?_, fun m hm => ?_, by simpa using g5⟩
      · refine g1 j y ?_ hy
        by_cases e : n.toNat = j
        · subst e; rw [hx] at hj; cases hj; omega
        · rw [List.getElem?_set_ne e]; exact hj
      · refine g2 j ?_
        by_cases e : n.toNat = j
        · subst e; rw [List.getElem?_set_self (List.getElem?_eq_some_iff.1 hj).1]
        · rw [List.getElem?_set_ne e]; exact hj
      · rcases g3 j y hj hy with g | g | g
        · by_cases e : n.toNat = j
          · subst e
            by_cases hw : n.toNat < w.length
            · exact .inr (.inl (g2 _ (by rw [List.getElem?_set_self hw])))
            · exact .inr (.inr (by omega))
          · rw [List.getElem?_set_ne e] at g; exact .inl g
        · exact .inr (.inl g)
        · exact .inr (.inr (by simpa using g))
      · rcases List.mem_cons.1 hm with rfl | hm
        · exact ⟨by omega, g1 _ _ (by rw [List.getElem?_set_self hn]) hv⟩
        · exact g4 m hm
theorem run_past {p : GProgram} (hN : Normal p) {code : List GI2} {h : List Int} {w : List Bool} {r : Option (List Int)} (hr : HRun (stepN p code) h w r) : HInv A1 W1 h w →
    (∀ (x : Nat) (i : GI2) (y : Int), code[x]? = some i → h[x]? = some y → 0 ≤ y → w[x]? = some true ∨ Past p code h x i y) → ∀ hf, r = some hf → (∀ (x : Nat) (i : GI2) (y : Int), code[x]? = some i → hf[x]? = some y → 0 ≤ y → Past p code hf x i y) ∧ (∀ (x : Nat) (y : Int), hf[x]? = some y → A1 y) ∧ ∀ (x : Nat) (y : Int), h[x]? = some y → 0 ≤ y → hf[x]? = some y := by
  induction hr with
  | @done h w h1 =>
    intro hi hpast hf e
    cases e
    refine ⟨fun x i y hx hy h0y => ?_, hi.all, fun _ _ h _ => h⟩
    rcases hpast x i y hx hy h0y with g | g
    · exact absurd g (h1 x)
    · exact g
  | bad h1 h2 => intro hi hpast hf e; cases e
  | @go h h' w w' x r h1 h2 h3 ih =>
    intro hi hpast hf e
    have hi' := (stepN_inv hN hi h1.1 h2).1
    unfold stepN at h2
    split at h2
    · rename_i i y hx hy
      split at h2
      · cases h2
      split at h2
      · cases h2
      rename_i c1 c2
      have hpu := putsL_range i
      obtain ⟨g1, g2, g3, g4, g5⟩ := putN_keep (by omega) _ _ _ _ _ h2
      have := ih hi' (fun z j u hz hu h0u => ?_) hf e
      · exact ⟨this.1, this.2.1, fun z u hz h0u => this.2.2 z u (g1 z u hz h0u) h0u⟩
      · rcases g3 z u hu h0u with g | g | g
        · by_cases ez : z = x
          · subst ez
            rw [hx] at hz
            cases hz
            rw [hy] at g
            cases g
            exact .inr ⟨by omega, by omega, g4⟩
          · rcases hpast z j u hz g h0u with k | ⟨k1, k2, k3⟩
            · left
              refine g2 z ?_
              rw [List.getElem?_set_ne (fun e => ez e.symm)]
              exact k
            · refine .inr ⟨k1, k2, fun n hn => ⟨(k3 n hn).1, g1 _ _ (k3 n hn).2 ?_⟩⟩
              have := putsL_range j
              omega
        · exact .inl g
        · have h5 := (List.getElem?_eq_some_iff.1 hu).1
          have h6 := hi'.len
          simp at g g5
          omega
    · cases h2
theorem heights_past {p : GProgram} (hp : RightP p) {m : GFunc} (hm : m ∈ p.funcs) {h : List Int} (hr : RunN p m (some h)) :
    (∀ (x : Nat) (i : GI2) (y : Int), m.code[x]? = some i → h[x]? = some y → 0 ≤ y → Past p m.code h x i y) ∧ (∀ (x : Nat) (y : Int), h[x]? = some y → A1 y) ∧ h[0]? = some 0 := by
  have hF := (hp.all m hm).1
  have hc := hF.code
  have key : ∀ (x : Nat) (i : GI2) (y : Int), m.code[x]? = some i → (h0 m.code.length)[x]? = some y → 0 ≤ y → (w0 m.code.length)[x]? = some true ∨ Past p m.code (h0 m.code.length) x i y := by
    intro x i y hx hy h0y
    left
    by_cases e : 0 = x
    · subst e
      unfold w0
      rw [List.getElem?_set_self (by simp; omega)]
    · unfold h0 at hy
      rw [List.getElem?_set_ne e, List.getElem?_replicate] at hy
      split at hy
      · cases hy; omega
      · cases hy
  obtain ⟨g1, g2, g3⟩ := run_past hp.normal hr (inv1 _) key h rfl
  refine ⟨g1, g2, g3 0 0 ?_ (by omega)⟩
  unfold h0
  rw [List.getElem?_set_self (by simp; omega)]
def str (l : List UInt8) : ByteArray := ⟨l.toArray⟩
theorem str_append (a b : List UInt8) : str a ++ str b = str (a ++ b) := by
  unfold str
  apply ByteArray.ext
  simp
theorem str_size (a : List UInt8) : (str a).size = a.length := by unfold str; simp [ByteArray.size]
theorem strL_one (x : Int) : strL [x] = str [UInt8.ofNat x.toNat] := rfl
theorem iquo_eq {x : Int} (h0 : -9223372036854775808 ≤ x) (h1 : x ≤ 9223372036854775807) : iquo .i64 x 10 = x.tdiv 10 := by
  unfold iquo
  have := Int.natAbs_tdiv x 10
  have hb : (x.tdiv 10).natAbs ≤ x.natAbs := by rw [this]; exact Nat.div_le_self _ _
  rcases Int.lt_or_le x 0 with h | h
  · have : x.tdiv 10 ≤ 0 := by
      have e : x = -(-x) := by omega
      rw [e, Int.neg_tdiv]
      have := Int.tdiv_nonneg (show 0 ≤ -x by omega) (show (0 : Int) ≤ 10 by omega)
      omega
    exact wrap_id (by omega) (by omega)
  · have := Int.tdiv_nonneg h (show (0 : Int) ≤ 10 by omega)
    exact wrap_id (by omega) (by omega)
theorem digit_eq {n : Int} : (if n.tmod 10 < 0 then 0 - n.tmod 10 else n.tmod 10) = ((n.natAbs % 10 : Nat) : Int) := by
  have h1 := Int.natAbs_tmod n 10
  have h2 : (10 : Int).natAbs = 10 := rfl
  rw [h2] at h1
  split <;> omega
theorem wrap8 {x : Int} (h0 : 0 ≤ x) (h1 : x < 256) : IntKind.u8.wrap x = x := by
  show x % 256 = x
  omega
def decU (u : Nat) : List UInt8 := if u = 0 then [] else Lib.decDigits u
theorem decU_step {u : Nat} (h : u ≠ 0) : decU (u / 10) ++ [UInt8.ofNat (48 + u % 10)] = Lib.decDigits u := by
  unfold decU
  rw [Lib.decDigits.eq_1 u]
  by_cases c : u < 10
  · rw [dif_pos c, if_pos (by omega)]
    rw [show u % 10 = u by omega]
    rfl
  · rw [dif_neg c, if_neg (by omega)]
theorem dec_l : ∀ (d u : Nat) (n : Int) (b : Bool) (s : List UInt8), u ≤ d → n.natAbs = u → -9223372036854775808 ≤ n → n ≤ 9223372036854775807 → s.length + (if u = 0 then 0 else Lib.nDigits u) ≤ 1000000 →
    Ev (fun k => spec_l01Dec.l1 k n b (str s)) (b, str (decU u ++ s)) := by
  intro d
  induction d with
  | zero =>
    intro u n b s hu hn h0 h1 hs
    refine Ev.succ ?_
    simp only [spec_l01Dec.l1]
    refine Ev.cf (by simp; omega) ?_
    rw [show u = 0 by omega]
    exact Ev.pure
  | succ d ih =>
    intro u n b s hu hn h0 h1 hs
    refine Ev.succ ?_
    simp only [spec_l01Dec.l1]
    by_cases c : n = 0
    · refine Ev.cf (by simp [c]) ?_
      rw [show u = 0 by omega]
      exact Ev.pure
    · refine Ev.ct (by simp [c]) ?_
      have hd := digit_eq (n := n)
      have h10 : u % 10 < 10 := Nat.mod_lt _ (by omega)
      refine Ev.bind (a := (n, b, str s, ((u % 10 : Nat) : Int))) ?_ ?_
      · unfold spec_l01Dec.a2
        rw [hn] at hd
        by_cases c2 : n.tmod 10 < 0
        · rw [if_pos c2] at hd
          rw [← hd]
          have h5 : -10 < n.tmod 10 := Int.lt_tmod_of_pos n (by omega)
          rw [wrap_id (by omega) (by omega)]
          exact Ev.ct (dt c2) Ev.pure
        · rw [if_neg c2] at hd
          rw [← hd]
          exact Ev.cf (df c2) Ev.pure
      · dsimp only
        rw [wrap_id (by omega) (by omega), wrap8 (by omega) (by omega), strL_one, str_append, str_size, str_size]
        have hpos := Lib.nDigits_pos u
        rw [if_neg (by omega)] at hs
        refine Ev.gd (by simp; omega) ?_
        rw [iquo_eq h0 h1]
        have hq := Int.natAbs_tdiv n 10
        have e10 : (10 : Int).natAbs = 10 := rfl
        rw [hn, e10] at hq
        have hle : u / 10 ≤ u := Nat.div_le_self _ _
        have hnd : Lib.nDigits (u / 10) + 1 ≤ Lib.nDigits u ∨ u < 10 := by
          by_cases c3 : u < 10
          · exact .inr c3
          · exact .inl (by rw [Lib.nDigits_big c3]; omega)
        have hq : (n.tdiv 10).natAbs = u / 10 := hq
        have hr : -9223372036854775808 ≤ n.tdiv 10 ∧ n.tdiv 10 ≤ 9223372036854775807 := by
          rcases Int.lt_or_le n 0 with h | h
          · have e : n = -(-n) := by omega
            have h3 : n.tdiv 10 ≤ 0 := by
              rw [e, Int.neg_tdiv]
              have := Int.tdiv_nonneg (show 0 ≤ -n by omega) (show (0 : Int) ≤ 10 by omega)
              omega
            omega
          · have := Int.tdiv_nonneg h (show (0 : Int) ≤ 10 by omega)
            omega
        have := ih (u / 10) (n.tdiv 10) b ([UInt8.ofNat (48 + ((u % 10 : Nat) : Int)).toNat] ++ s) (by omega) hq hr.1 hr.2 (by
          rw [List.length_append, List.length_singleton]
          rcases hnd with h | h
          · split <;> omega
          · have h0' : u / 10 = 0 := by omega
            rw [if_pos h0']
            rw [Lib.nDigits_small h] at hs
            omega)
        rw [← List.append_assoc, show (48 + ((u % 10 : Nat) : Int)).toNat = 48 + u % 10 by omega, decU_step (by omega)] at this
        rw [show decU u = Lib.decDigits u by unfold decU; rw [if_neg (by omega)]]
        exact this
theorem dec_ev {n : Int} (h0 : -9223372036854775808 ≤ n) (h1 : n ≤ 9223372036854775807) : Ev (fun k => spec_l01Dec k n) (str (Lib.itoa n)) := by
  unfold spec_l01Dec
  by_cases c : n = 0
  · refine Ev.ct (by simp [c]) ?_
    subst c
    exact Ev.const (by rw [Lib.itoa, if_neg (by omega), show Int.toNat 0 = 0 from rfl, Lib.decDigits_one (by omega)]; rfl)
  · refine Ev.cf (by simp [c]) ?_
    have hn := Lib.nDigits_pos n.natAbs
    have hle : Lib.nDigits n.natAbs ≤ 20 := Lib.nDigits_le20 _ (by omega)
    refine Ev.bind (dec_l n.natAbs n.natAbs n _ [] (by omega) rfl h0 h1 (by rw [if_neg (by omega)]; simp; omega)) ?_
    rw [List.append_nil, show decU n.natAbs = Lib.decDigits n.natAbs by unfold decU; rw [if_neg (by omega)]]
    by_cases c2 : n < 0
    · refine Ev.ct (dt c2) ?_
      show Ev (fun k => L.gd ((str [45]).size + (str (Lib.decDigits n.natAbs)).size ≤ 9223372036854775807) (some (str [45] ++ str (Lib.decDigits n.natAbs)))) _
      rw [str_size, str_size, Lib.decDigits_length, str_append]
      refine Ev.gd (by simp; omega) (Ev.const ?_)
      rw [Lib.itoa, if_pos c2]
      rfl
    · refine Ev.cf (df c2) (Ev.const ?_)
      rw [Lib.itoa, if_neg c2, show n.natAbs = n.toNat by omega]
theorem digits_eq {n : Int} (h0 : -9223372036854775808 ≤ n) (h1 : n ≤ 9223372036854775807) : impl_digits n = some (str (Lib.itoa n)) := by
  unfold impl_digits strconv_FormatInt L.gd
  rw [if_pos ⟨rfl, h0, h1⟩]
  rfl
def valB (v : GI2) : Bool := if v.a = 0 then decide (v.b = 0) else if v.a = 1 then decide (0 ≤ v.b ∧ v.b < 22) else decide (v.a = 2)
def valT (v : GI2) : List UInt8 := if v.a = 0 then [45] else if v.a = 2 then 35 :: Lib.itoa v.b else if v.b < 6 then 114 :: Lib.itoa v.b else 109 :: Lib.itoa (v.b - 6)
def valTT (v : GI2) : List UInt8 := if valB v then valT v else []
theorem specVal (v : GI2) : spec_l10Val v = some (valB v) := by
  unfold spec_l10Val valB
  by_cases c0 : v.a = 0
  · rw [if_pos c0, show (v.a == 0) = true by simp [c0]]; rfl
  · rw [if_neg c0]
    by_cases c1 : v.a = 1
    · rw [if_pos c1]
      unfold spec_l10Loc
      by_cases c2 : v.b ≥ 0
      · simp [c1, c2]
      · simp [c1, c2]
    · rw [if_neg c1, show (v.a == 0) = false by simp [c0], show (v.a == 1) = false by simp [c1]]; rfl
theorem implVal (v : GI2) : impl_Val_right v = some (valB v) := by
  unfold impl_Val_right valB
  by_cases c0 : v.a = 0
  · rw [if_pos c0, show (v.a == 0) = true by simp [c0]]; rfl
  · rw [if_neg c0]
    by_cases c1 : v.a = 1
    · rw [if_pos c1]
      unfold impl_isLoc impl_in
      by_cases c2 : v.b ≥ 0
      · simp [c1, c2]; omega
      · simp [c1, c2]
    · rw [if_neg c1, show (v.a == 0) = false by simp [c0], show (v.a == 1) = false by simp [c1]]; rfl
theorem valB_kind {v : GI2} (h : valB v = true) (h0 : v.a ≠ 0) (h2 : v.a ≠ 2) : v.a = 1 ∧ 0 ≤ v.b ∧ v.b < 22 := by
  unfold valB at h
  rw [if_neg h0] at h
  by_cases c1 : v.a = 1
  · rw [if_pos c1] at h; exact ⟨c1, of_decide_eq_true h⟩
  · rw [if_neg c1] at h; exact absurd (of_decide_eq_true h) h2
theorem itoa_len {n : Int} (h : L.i64 n) : (Lib.itoa n).length ≤ 21 := Lib.itoa_length_le n h.1 h.2
theorem one_str (c : UInt8) {l : List UInt8} (h : l.length ≤ 1000) : L.gd ((str [c]).size + (str l).size ≤ 9223372036854775807) (some (str [c] ++ str l)) = some (str (c :: l)) := by
  unfold L.gd
  rw [str_size, str_size, str_append, if_pos (by simp; omega)]
  rfl
theorem ev_bind_some {α β : Type} {f : Nat → Option α} {g : α → Option β} {a : α} {v : β} (h1 : Ev f a) (h2 : g a = some v) : Ev (fun k => (f k).bind g) v := Ev.bind h1 (Ev.const h2)
theorem specValText {v : GI2} (h : L.i64 v.b) : Ev (fun k => spec_ValText k v) (str (valTT v)) := by
  unfold spec_ValText valTT
  refine Ev.bind (Ev.const (specVal v)) ?_
  cases hb : valB v with
  | false => exact Ev.ct rfl (Ev.const (by simp [str]))
  | true =>
    refine Ev.cf rfl ?_
    rw [if_pos rfl]
    unfold valT
    by_cases c0 : v.a = 0
    · rw [if_pos c0]; exact Ev.ct (by simp [c0]) (Ev.const rfl)
    rw [if_neg c0]
    refine Ev.cf (by simp [c0]) ?_
    by_cases c2 : v.a = 2
    · rw [if_pos c2]
      refine Ev.ct (by simp [c2]) (ev_bind_some (dec_ev h.1 h.2) ?_)
      exact one_str 35 (by have := itoa_len h; omega)
    rw [if_neg c2]
    refine Ev.cf (by simp [c2]) ?_
    have hk := valB_kind hb c0 c2
    by_cases c6 : v.b < 6
    · rw [if_pos c6]
      refine Ev.ct (dt c6) (ev_bind_some (dec_ev h.1 h.2) ?_)
      exact one_str 114 (by have := itoa_len h; omega)
    · rw [if_neg c6, wrap_id (by omega) (by omega)]
      have h' : L.i64 (v.b - 6) := ⟨by omega, by omega⟩
      refine Ev.cf (df c6) (ev_bind_some (dec_ev h'.1 h'.2) ?_)
      exact one_str 109 (by have := itoa_len h'; omega)
theorem implValText' {v : GI2} (h : L.i64 v.b) (hb : valB v = true) : impl_valText v = some (str (valT v)) := by
  unfold impl_valText valT
  by_cases c0 : v.a = 0
  · rw [if_pos c0]; simp [c0, str]
  rw [if_neg c0, show (v.a == 0) = false by simp [c0], cond_false]
  by_cases c2 : v.a = 2
  · rw [if_pos c2, show (v.a == 2) = true by simp [c2], cond_true, digits_eq h.1 h.2]
    exact one_str 35 (by have := itoa_len h; omega)
  rw [if_neg c2, show (v.a == 2) = false by simp [c2], cond_false]
  have hk := valB_kind hb c0 c2
  by_cases c6 : v.b < 6
  · rw [if_pos c6, dt c6, cond_true, digits_eq h.1 h.2]
    exact one_str 114 (by have := itoa_len h; omega)
  · have h' : L.i64 (v.b - 6) := ⟨by omega, by omega⟩
    rw [if_neg c6, df c6, cond_false, wrap_id (by omega) (by omega), digits_eq h'.1 h'.2]
    exact one_str 109 (by have := itoa_len h'; omega)
structure BigI (x : GAsmIns) : Prop where
  pre : x.pre.length ≤ 9223372036854775807
  l : x.l.length ≤ 9223372036854775807
  t : L.i64 x.t
  lb : ∀ v ∈ x.l, L.i64 v.b
  pb : ∀ m ∈ x.pre, L.i64 m.from0.b
structure BigA (a : GAsm) : Prop where
  func : L.i64 a.func0
  code : a.code.length ≤ 9223372036854775807
  ins : ∀ x ∈ a.code, BigI x
  maps : a.maps.length ≤ 9223372036854775807
  map : ∀ v ∈ a.maps, v.length ≤ 9223372036854775807 ∧ ∀ y ∈ v, L.i64 y.b
structure SmallA (a : GAsm) : Prop where
  code : a.code.length ≤ 1048576
  ins : ∀ x ∈ a.code, x.pre.length ≤ 1048576 ∧ x.l.length ≤ 1048576
  maps : a.maps.length ≤ 1048576
  map : ∀ v ∈ a.maps, v.length ≤ 1048576
theorem szLoop {α : Type} (F : Nat → List α → Int → Int → Option (Int ⊕ Int)) (g : α → Int → Option Int) (P : α → Prop)
    (hF : ∀ k l n i, F (k + 1) l n i = cond (decide (i < (l.length : Int))) ((idx l i).bind fun m => (g m n).bind fun t => cond (decide (t < 0)) (some (.inl (-1))) (F k l t (IntKind.i64.wrap (i + 1)))) (some (.inr n)))
    (l : List α) (hl : l.length ≤ 1048576) (hg : ∀ m ∈ l, ∀ n, 0 ≤ n → n ≤ 1048576 → ∃ t, g m n = some t ∧ (t = -1 ∨ (0 ≤ t ∧ t ≤ n ∧ P m))) : ∀ (d i : Nat) (n : Int), l.length - i = d → i ≤ l.length → 0 ≤ n → n ≤ 1048576 →
    ∃ r, Ev (fun k => F k l n (i : Int)) r ∧ (r = .inl (-1) ∨ ∃ x, r = .inr x ∧ 0 ≤ x ∧ x ≤ n ∧ ∀ j m, i ≤ j → l[j]? = some m → P m) := by
  intro d
  induction d with
  | zero =>
    intro i n hd hi h0 h1
    refine ⟨.inr n, Ev.succ ?_, .inr ⟨n, rfl, h0, Int.le_refl _, fun j f hj hf => ?_⟩⟩
    · simp only [hF]
      exact Ev.cf (df (by omega)) Ev.pure
    · have := (List.getElem?_eq_some_iff.1 hf).1
      omega
  | succ d ih =>
    intro i n hd hi h0 h1
    obtain ⟨m, hm⟩ := list_get (show i < l.length by omega)
    obtain ⟨t, ht, hc⟩ := hg m (List.mem_of_getElem? hm) n h0 h1
    rcases hc with rfl | ⟨c0, c1, c2⟩
    · refine ⟨.inl (-1), Ev.succ ?_, .inl rfl⟩
      simp only [hF]
      exact Ev.ct (dt (by omega)) (Ev.idx hm (Ev.bind (Ev.const ht) (Ev.ct (dt (by omega)) Ev.pure)))
    · obtain ⟨r, hr, h⟩ := ih (i + 1) t (by omega) (by omega) c0 (by omega)
      refine ⟨r, Ev.succ ?_, ?_⟩
      · simp only [hF]
        refine Ev.ct (dt (by omega)) (Ev.idx hm (Ev.bind (Ev.const ht) (Ev.cf (df (by omega)) ?_)))
        rw [wrap_nat (by omega)]
        exact hr
      · rcases h with h | ⟨x, rfl, h2, h3, h4⟩
        · exact .inl h
        · refine .inr ⟨x, rfl, h2, by omega, fun j f hj hf => ?_⟩
          rcases Nat.lt_or_ge i j with hij | hij
          · exact h4 j f hij hf
          · have : j = i := by omega
            subst this
            rw [hm] at hf
            cases hf
            exact c2
theorem szList {α : Type} (F : Nat → List α → Int → Int → Option (Int ⊕ Int)) (g : α → Int → Option Int) (P : α → Prop)
    (hF : ∀ k l n i, F (k + 1) l n i = cond (decide (i < (l.length : Int))) ((idx l i).bind fun m => (g m n).bind fun t => cond (decide (t < 0)) (some (.inl (-1))) (F k l t (IntKind.i64.wrap (i + 1)))) (some (.inr n)))
    (l : List α) (hl : l.length ≤ 9223372036854775807) (n : Int) (h0 : 0 ≤ n) (h1 : n ≤ 1048576) (hg : ∀ m ∈ l, ∀ n, 0 ≤ n → n ≤ 1048576 → ∃ t, g m n = some t ∧ (t = -1 ∨ (0 ≤ t ∧ t ≤ n ∧ P m))) :
    ∃ t, Ev (fun k => cond ((decide (((IntKind.i64.wrap (n - ((l.length : Int))))) < 0))) (some ((-1))) ((F k l ((IntKind.i64.wrap (n - ((l.length : Int))))) 0).bind fun o1 => Sum.elim (fun o1l => some o1l) (fun o1r => some o1r) o1)) t ∧
      (t = -1 ∨ (0 ≤ t ∧ t ≤ n ∧ l.length ≤ 1048576 ∧ ∀ m ∈ l, P m)) := by
  rw [wrap_id (by omega) (by omega)]
  by_cases c : n - (l.length : Int) < 0
  · exact ⟨-1, Ev.ct (dt c) Ev.pure, .inl rfl⟩
  · obtain ⟨r, hr, h⟩ := szLoop F g P hF l (by omega) hg _ 0 (n - l.length) rfl (by omega) (by omega) (by omega)
    rcases h with rfl | ⟨x, rfl, h2, h3, h4⟩
    · exact ⟨-1, Ev.cf (df c) (Ev.bind hr Ev.pure), .inl rfl⟩
    · refine ⟨x, Ev.cf (df c) (Ev.bind hr Ev.pure), .inr ⟨h2, by omega, by omega, fun m hm => ?_⟩⟩
      obtain ⟨j, hj⟩ := List.getElem?_of_mem hm
      exact h4 j m (by omega) hj
theorem szOne (N : Nat) (n : Int) (h0 : 0 ≤ n) (h1 : n ≤ 1048576) (h : N ≤ 9223372036854775807) :
    ∃ t, cond ((decide (((IntKind.i64.wrap (n - ((N : Int))))) < 0))) (some ((-1))) (some ((IntKind.i64.wrap (n - ((N : Int)))))) = some t ∧ (t = -1 ∨ (0 ≤ t ∧ t ≤ n ∧ N ≤ 1048576)) := by
  rw [wrap_id (by omega) (by omega)]
  by_cases c : n - (N : Int) < 0
  · exact ⟨-1, by rw [dt c]; rfl, .inl rfl⟩
  · exact ⟨n - N, by rw [df c]; rfl, .inr ⟨by omega, by omega, by omega⟩⟩
theorem szAsmIns_eq {x : GAsmIns} (hx : BigI x) (n : Int) (h0 : 0 ≤ n) (h1 : n ≤ 1048576) : ∃ t, laws_szAsmIns x n = some t ∧ (t = -1 ∨ (0 ≤ t ∧ t ≤ n ∧ (x.pre.length ≤ 1048576 ∧ x.l.length ≤ 1048576))) := by
  obtain ⟨t, ht, hc⟩ := szOne x.pre.length n h0 h1 hx.pre
  have ht : laws_szMovS x.pre n = some t := ht
  unfold laws_szAsmIns
  rw [ht]
  rcases hc with rfl | ⟨c0, c1, c2⟩
  · exact ⟨-1, rfl, .inl rfl⟩
  · obtain ⟨s, hs, hd⟩ := szOne x.l.length t c0 (by omega) hx.l
    have hs : laws_szValS x.l t = some s := hs
    rw [Option.bind_some, df (by omega), cond_false, hs]
    rcases hd with rfl | ⟨d0, d1, d2⟩
    · exact ⟨-1, rfl, .inl rfl⟩
    · rw [Option.bind_some, df (by omega)]
      exact ⟨s, rfl, .inr ⟨d0, by omega, c2, d2⟩⟩
theorem szAsm_ev {a : GAsm} (h : BigA a) (n : Int) (h0 : 0 ≤ n) (h1 : n ≤ 1048576) : ∃ t, Ev (fun k => laws_szAsm k a n) t ∧ (t < 0 ∨ SmallA a) := by
  obtain ⟨t, ht, hc⟩ := szList laws_szAsmInsS.l1 laws_szAsmIns (fun x => x.pre.length ≤ 1048576 ∧ x.l.length ≤ 1048576) (fun _ _ _ _ => rfl) a.code h.code n h0 h1 (fun m hm n h0 h1 => szAsmIns_eq (h.ins m hm) n h0 h1)
  have ht : Ev (fun k => laws_szAsmInsS k a.code n) t := ht
  rcases hc with rfl | ⟨c0, c1, c2, c3⟩
  · exact ⟨-1, Ev.bind ht (Ev.ct rfl Ev.pure), .inl (by omega)⟩
  · obtain ⟨s, hs, hd⟩ := szList laws_szValSS.l1 laws_szValS (fun v => v.length ≤ 1048576) (fun _ _ _ _ => rfl) a.maps h.maps t c0 (by omega) (fun m hm n h0 h1 => szOne m.length n h0 h1 (h.map m hm).1)
    have hs : Ev (fun k => laws_szValSS k a.maps t) s := hs
    rcases hd with rfl | ⟨d0, d1, d2, d3⟩
    · exact ⟨-1, Ev.bind ht (Ev.cf (df (by omega)) (Ev.bind hs (Ev.ct rfl Ev.pure))), .inl (by omega)⟩
    · exact ⟨s, Ev.bind ht (Ev.cf (df (by omega)) (Ev.bind hs (Ev.cf (df (by omega)) Ev.pure))), .inr ⟨c2, c3, d2, d3⟩⟩
theorem toLoop {α : Type} (F : Nat → List α → List α → Int → Option (List α)) (g : Nat → α → Option α)
    (hF : ∀ k acc l i, F (k + 1) acc l i = cond (decide (i < (l.length : Int))) ((idx l i).bind fun m => (g k m).bind fun t => (idx acc i).bind fun _ => F k (acc.set i.toNat t) l (IntKind.i64.wrap (i + 1))) (some acc))
    (l : List α) (hl : l.length ≤ 1048576) (hg : ∀ m ∈ l, Ev (fun k => g k m) m) : ∀ (d i : Nat) (acc : List α), l.length - i = d → i ≤ l.length → acc.length = l.length → acc.take i = l.take i →
    Ev (fun k => F k acc l (i : Int)) l := by
  intro d
  induction d with
  | zero =>
    intro i acc hd hi ha ht
    have : i = l.length := by omega
    subst this
    refine Ev.succ ?_
    simp only [hF]
    refine Ev.cf (df (by omega)) ?_
    rw [List.take_of_length_le (by omega), List.take_of_length_le (by omega)] at ht
    rw [ht]; exact Ev.pure
  | succ d ih =>
    intro i acc hd hi ha ht
    obtain ⟨m, hm⟩ := list_get (show i < l.length by omega)
    obtain ⟨m', hm'⟩ := list_get (show i < acc.length by omega)
    refine Ev.succ ?_
    simp only [hF]
    refine Ev.ct (dt (by omega)) (Ev.idx hm (Ev.bind (hg m (List.mem_of_getElem? hm)) (Ev.idx hm' ?_)))
    rw [wrap_nat (by omega), Int.toNat_natCast]
    exact ih (i + 1) _ (by omega) (by omega) (by simpa using ha) (take_set_next ha ht hm)
theorem toVals_ev {l : List GI2} (h : l.length ≤ 1048576) : Ev (fun k => laws_toValS k l) l := by
  unfold laws_toValS
  exact Ev.gd ⟨by omega, by omega, by omega⟩ (Ev.bind (toLoop laws_toValS.l1 (fun _ => laws_toVal) (fun _ _ _ _ => rfl) l h (fun m _ => Ev.pure) _ 0 _ rfl (by omega) (by simp) (by simp)) Ev.pure)
theorem toMovs_ev {l : List GMov} (h : l.length ≤ 1048576) : Ev (fun k => laws_toMovS k l) l := by
  unfold laws_toMovS
  exact Ev.gd ⟨by omega, by omega, by omega⟩ (Ev.bind (toLoop laws_toMovS.l1 (fun _ => laws_toMov) (fun _ _ _ _ => rfl) l h (fun m _ => Ev.pure) _ 0 _ rfl (by omega) (by simp) (by simp)) Ev.pure)
theorem toAsmIns_ev {x : GAsmIns} (h : x.pre.length ≤ 1048576 ∧ x.l.length ≤ 1048576) : Ev (fun k => laws_toAsmIns k x) x :=
  Ev.bind (toMovs_ev h.1) (Ev.bind (toVals_ev h.2) Ev.pure)
theorem toAsm_ev {a : GAsm} (h : SmallA a) : Ev (fun k => laws_toAsm k a) a := by
  have h1 := h.code
  have h2 := h.maps
  refine Ev.bind (a := a.code) ?_ (Ev.bind (a := a.maps) ?_ Ev.pure)
  · unfold laws_toAsmInsS
    exact Ev.gd ⟨by omega, by omega, by omega⟩ (Ev.bind (toLoop laws_toAsmInsS.l1 laws_toAsmIns (fun _ _ _ _ => rfl) a.code h1 (fun m hm => toAsmIns_ev (h.ins m hm)) _ 0 _ rfl (by omega) (by simp) (by simp)) Ev.pure)
  · unfold laws_toValSS
    exact Ev.gd ⟨by omega, by omega, by omega⟩ (Ev.bind (toLoop laws_toValSS.l1 laws_toValS (fun _ _ _ _ => rfl) a.maps h2 (fun m hm => toVals_ev (h.map m hm)) _ 0 _ rfl (by omega) (by simp) (by simp)) Ev.pure)
theorem eqLoop {α : Type} (F : Nat → List α → List α → Int → Option (Bool ⊕ Unit)) (g : Nat → α → α → Option Bool)
    (hF : ∀ k a b i, F (k + 1) a b i = cond (decide (i < (a.length : Int))) ((idx a i).bind fun m => (idx b i).bind fun n => (g k m n).bind fun t => cond (!t) (some (.inl false)) (F k a b (IntKind.i64.wrap (i + 1)))) (some (.inr ())))
    (l : List α) (hl : l.length ≤ 1048576) (hg : ∀ m ∈ l, Ev (fun k => g k m m) true) :
    Ev (fun k => cond ((((l.length : Int)) != ((l.length : Int)))) (some false) ((F k l l 0).bind fun o1 => Sum.elim (fun o1l => some o1l) (fun o1r => some true) o1)) true := by
  have key : ∀ (d i : Nat), l.length - i = d → i ≤ l.length → Ev (fun k => F k l l (i : Int)) (.inr ()) := by
    intro d
    induction d with
    | zero =>
      intro i hd hi
      refine Ev.succ ?_
      simp only [hF]
      exact Ev.cf (df (by omega)) Ev.pure
    | succ d ih =>
      intro i hd hi
      obtain ⟨m, hm⟩ := list_get (show i < l.length by omega)
      refine Ev.succ ?_
      simp only [hF]
      refine Ev.ct (dt (by omega)) (Ev.idx hm (Ev.idx hm (Ev.bind (hg m (List.mem_of_getElem? hm)) (Ev.cf rfl ?_))))
      rw [wrap_nat (by omega)]
      exact ih (i + 1) (by omega) (by omega)
  exact Ev.cf (by simp) (Ev.bind (key _ 0 rfl (by omega)) Ev.pure)
theorem eqVal_same (v : GI2) : laws_eqVal v v = some true := by simp [laws_eqVal]
theorem eqMov_same (v : GMov) : laws_eqMov v v = some true := by simp [laws_eqMov, eqVal_same]
theorem eqVals_ev {l : List GI2} (h : l.length ≤ 1048576) : Ev (fun k => laws_eqValS k l l) true := by
  unfold laws_eqValS
  exact eqLoop laws_eqValS.l1 (fun _ => laws_eqVal) (fun _ _ _ _ => rfl) l h (fun m _ => Ev.const (eqVal_same m))
theorem eqMovs_ev {l : List GMov} (h : l.length ≤ 1048576) : Ev (fun k => laws_eqMovS k l l) true := by
  unfold laws_eqMovS
  exact eqLoop laws_eqMovS.l1 (fun _ => laws_eqMov) (fun _ _ _ _ => rfl) l h (fun m _ => Ev.const (eqMov_same m))
theorem eqAsmIns_ev {x : GAsmIns} (h : x.pre.length ≤ 1048576 ∧ x.l.length ≤ 1048576) : Ev (fun k => laws_eqAsmIns k x x) true := by
  unfold laws_eqAsmIns
  exact Ev.bind (eqMovs_ev h.1) (Ev.cf rfl (Ev.cf (by simp) (Ev.cf (by simp) (Ev.bind (eqVals_ev h.2) (Ev.cf rfl (Ev.cf (by simp) Ev.pure))))))
theorem eqAsm_ev {a : GAsm} (h : SmallA a) : Ev (fun k => laws_eqAsm k a a) true := by
  have q1 : Ev (fun k => laws_eqAsmInsS k a.code a.code) true := by
    unfold laws_eqAsmInsS
    exact eqLoop laws_eqAsmInsS.l1 laws_eqAsmIns (fun _ _ _ _ => rfl) a.code h.code (fun m hm => eqAsmIns_ev (h.ins m hm))
  have q2 : Ev (fun k => laws_eqValSS k a.maps a.maps) true := by
    unfold laws_eqValSS
    exact eqLoop laws_eqValSS.l1 laws_eqValS (fun _ _ _ _ => rfl) a.maps h.maps (fun m hm => eqVals_ev (h.map m hm))
  unfold laws_eqAsm
  exact Ev.cf (by simp) (Ev.bind q1 (Ev.cf rfl (Ev.bind q2 (Ev.cf rfl Ev.pure))))
theorem allLoop {β : Type} (F : Nat → Int → Option (Bool ⊕ β)) (N : Nat) (b : Nat → Bool) (c : β)
    (hs : ∀ i, i < N → (b i = true → ∀ v, Ev (fun k => F k ((i + 1 : Nat) : Int)) v → Ev (fun k => F k (i : Int)) v) ∧ (b i = false → Ev (fun k => F k (i : Int)) (.inl false)))
    (he : Ev (fun k => F k (N : Int)) (.inr c)) : Ev (fun k => F k 0) (if (List.range N).all b = true then .inr c else .inl false) := by
  have key : ∀ (d i : Nat), N - i = d → i ≤ N → ((∀ j, i ≤ j → j < N → b j = true) → Ev (fun k => F k (i : Int)) (.inr c)) ∧ ((∃ j, i ≤ j ∧ j < N ∧ b j = false) → Ev (fun k => F k (i : Int)) (.inl false)) := by
    intro d
    induction d with
    | zero =>
      intro i hd hi
      have : i = N := by omega
      subst this
      exact ⟨fun _ => he, fun ⟨j, h1, h2, _⟩ => by omega⟩
    | succ d ih =>
      intro i hd hi
      obtain ⟨h1, h2⟩ := hs i (by omega)
      obtain ⟨q1, q2⟩ := ih (i + 1) (by omega) (by omega)
      cases e : b i with
      | true =>
        refine ⟨fun h => h1 e _ (q1 fun j hj hN => h j (by omega) hN), ?_⟩
        rintro ⟨j, hj, hN, hb⟩
        have : j ≠ i := fun hij => by rw [hij, e] at hb; cases hb
        exact h1 e _ (q2 ⟨j, by omega, hN, hb⟩)
      | false =>
        refine ⟨fun h => ?_, fun _ => h2 e⟩
        have := h i (Nat.le_refl _) (by omega)
        rw [e] at this
        cases this
  obtain ⟨q1, q2⟩ := key N 0 (by omega) (by omega)
  cases e : (List.range N).all b with
  | true =>
    rw [if_pos rfl]
    rw [List.all_eq_true] at e
    exact q1 fun j _ hj => e j (List.mem_range.2 hj)
  | false =>
    rw [if_neg (by simp)]
    rw [List.all_eq_false] at e
    obtain ⟨j, hj, hb⟩ := e
    exact q2 ⟨j, by omega, List.mem_range.1 hj, by simpa using hb⟩
def allB {α : Type} (l : List α) (f : α → Bool) : Bool := (List.range l.length).all fun i => match l[i]? with | some m => f m | none => true
theorem allB_mem {α : Type} {l : List α} {f : α → Bool} (h : allB l f = true) : ∀ m ∈ l, f m = true := by
  intro m hm
  obtain ⟨i, hi⟩ := List.getElem?_of_mem hm
  unfold allB at h
  rw [List.all_eq_true] at h
  have := h i (List.mem_range.2 (List.getElem?_eq_some_iff.1 hi).1)
  rw [hi] at this
  exact this
theorem listLoop {α β : Type} (F : Nat → Int → Option (Bool ⊕ β)) (l : List α) (f : α → Bool) (c : β)
    (hs : ∀ (i : Nat) m, l[i]? = some m → (f m = true → ∀ v, Ev (fun k => F k ((i + 1 : Nat) : Int)) v → Ev (fun k => F k (i : Int)) v) ∧ (f m = false → Ev (fun k => F k (i : Int)) (.inl false)))
    (he : Ev (fun k => F k (l.length : Int)) (.inr c)) : Ev (fun k => F k 0) (if allB l f = true then .inr c else .inl false) := by
  refine allLoop F l.length _ c (fun i hi => ?_) he
  obtain ⟨m, hm⟩ := list_get hi
  rw [hm]
  exact hs i m hm
theorem bf {a b : Int} (h : ¬ a = b) : (a == b) = false := by simp [h]
def locB (n : Int) : Bool := decide (0 ≤ n ∧ n < 22)
theorem specLoc (n : Int) : spec_l10Loc n = some (locB n) := by
  unfold spec_l10Loc locB
  by_cases c : n ≥ 0
  · simp [c]
  · simp [c]
theorem implLoc (n : Int) : impl_isLoc n = some (locB n) := by
  unfold impl_isLoc locB
  rw [impl_in_eq, Option.bind_some]
  congr 1
  rw [decide_eq_decide]
  omega
def someB (v : GI2) : Bool := valB v && (v.a != 0)
theorem specSome (v : GI2) : spec_l10Some v = some (someB v) := by
  unfold spec_l10Some someB
  rw [specVal, Option.bind_some]
  cases valB v <;> rfl
theorem implSome (v : GI2) : impl_Val_some v = some (someB v) := by
  unfold impl_Val_some someB
  rw [implVal, Option.bind_some]
  cases valB v <;> cases (v.a != 0) <;> rfl
def preB (m : GMov) : Bool := locB m.to && someB m.from0
def clsA (a : Int) : Bool := decide ((10 ≤ a ∧ a ≤ 29) ∨ a = 34 ∨ a = 35 ∨ a = 37)
def clsB (a : Int) : Bool := decide (a = 36 ∨ a = 38 ∨ a = 33)
def clsJ (a : Int) : Bool := decide (a = 30 ∨ a = 31)
def argsOf (p : GProgram) (t : Int) : Int := match p.funcs[t.toNat]? with | some f => f.args | none => 0
def opB (p : GProgram) (m : GFunc) (op to t n : Int) : Bool :=
  cond (op == 0) ((to == -1) && ((n == 0) && (t == 0)))
  (cond (op == 1) (locB to && ((n == 1) && (t == 0)))
  (cond (op == 3) ((to == -1) && ((n == 1) && ((t == 1) || (t == 2))))
  (cond (clsA op) (((to == -1) || locB to) && ((n == takesL p ⟨op, 0⟩) && (t == 0)))
  (cond (clsB op) ((to == -1) && ((n == takesL p ⟨op, 0⟩) && (t == 0)))
  (cond (clsJ op) ((to == -1) && ((n == takesL p ⟨op, 0⟩) && (decide (0 ≤ t) && decide (t < (m.code.length : Int)))))
  (cond (op == 32) (((to == -1) || locB to) && (decide (0 ≤ t) && (decide (t < (p.funcs.length : Int)) && (n == argsOf p t)))) false))))))
theorem s5 (k : Nat) (fs : List GFunc) (pre : List GMov) (op to : Int) (l : List GI2) (t f n : Int) : spec_l10Ins.a5 k fs pre op to l t f n = some (fs, pre, op, to, l, t, f, n, clsA op) := by
  unfold spec_l10Ins.a5 spec_l03Binary spec_l03Unary clsA
  rcases op_cases op with (rfl | rfl | rfl | rfl | rfl | rfl | rfl | rfl | rfl | rfl | rfl | rfl | rfl | rfl | rfl | rfl | rfl | rfl | rfl | rfl | rfl | rfl | rfl | rfl | rfl | rfl | rfl | rfl | rfl | rfl | rfl | rfl | rfl | rfl | rfl | rfl | rfl | rfl | rfl) | h
  all_goals (try rfl)
  have e : ∀ c : Int, 0 ≤ c → c ≤ 38 → (op == c) = false := by intro c h1 h2; simp; omega
  have e2 : decide ((10 ≤ op ∧ op ≤ 29) ∨ op = 34 ∨ op = 35 ∨ op = 37) = false := df (by omega)
  rw [e2]
  rcases h with h | h
  · simp [e, show ¬ 10 ≤ op by omega, show ¬ 24 ≤ op by omega]
  · simp [e, show 10 ≤ op by omega, show 24 ≤ op by omega, show ¬ op ≤ 23 by omega, show ¬ op ≤ 29 by omega]
theorem s6 (k : Nat) (fs : List GFunc) (pre : List GMov) (op to : Int) (l : List GI2) (t f n : Int) : spec_l10Ins.a6 k fs pre op to l t f n = some (fs, pre, op, to, l, t, f, n, clsB op) := by
  unfold spec_l10Ins.a6 clsB
  by_cases c1 : op = 36
  · simp [c1]
  · by_cases c2 : op = 38
    · simp [c2]
    · by_cases c3 : op = 33 <;> simp [bf c1, bf c2, c3, c1, c2]
theorem s7 (k : Nat) (fs : List GFunc) (pre : List GMov) (op to : Int) (l : List GI2) (t f n : Int) : spec_l10Ins.a7 k fs pre op to l t f n = some (fs, pre, op, to, l, t, f, n, clsJ op) := by
  unfold spec_l10Ins.a7 clsJ
  by_cases c1 : op = 30
  · simp [c1]
  · by_cases c3 : op = 31 <;> simp [bf c1, c3, c1]
theorem i3 (k : Nat) (pre : List GMov) (op to : Int) (l : List GI2) (t : Int) (g : Gprog) (f : Int) (b : Bool) : impl_prog_insRight.a3 k pre op to l t g f b = some (pre, op, to, l, t, g, f, b, clsB op) := by
  unfold impl_prog_insRight.a3 clsB
  by_cases c1 : op = 36
  · simp [c1]
  · by_cases c2 : op = 38
    · simp [c2]
    · by_cases c3 : op = 33 <;> simp [bf c1, bf c2, c3, c1, c2]
theorem i4 (k : Nat) (pre : List GMov) (op to : Int) (l : List GI2) (t : Int) (g : Gprog) (f : Int) : impl_prog_insRight.a4 k pre op to l t g f = some (pre, op, to, l, t, g, f, clsA op) := by
  unfold impl_prog_insRight.a4 impl_isArith clsA
  rw [impl_in_eq, Option.bind_some, Option.bind_some]
  by_cases c0 : 10 ≤ op ∧ op ≤ 29
  · rw [dt c0, dt (show (10 ≤ op ∧ op ≤ 29) ∨ op = 34 ∨ op = 35 ∨ op = 37 by omega)]; rfl
  · rw [df c0, cond_false]
    by_cases c1 : op = 34
    · simp [c1]
    · by_cases c2 : op = 35
      · simp [c2]
      · by_cases c3 : op = 37 <;> simp [bf c1, bf c2, c1, c2, c0, c3]
theorem args_at {p : GProgram} {t : Int} (h0 : 0 ≤ t) (h1 : t < (p.funcs.length : Int)) : ∃ m, idx p.funcs t = some m ∧ m.args = argsOf p t := by
  obtain ⟨m, hm⟩ := list_get (show t.toNat < p.funcs.length by omega)
  exact ⟨m, by rw [idx_of h0, hm], by unfold argsOf; rw [hm]⟩
theorem callB_eq {p : GProgram} (t n : Int) : cond (decide (t ≥ 0)) (cond (decide (t < (p.funcs.length : Int))) ((idx p.funcs t).bind fun m15 => some (n == m15.args)) (some false)) (some false) = some (decide (0 ≤ t) && (decide (t < (p.funcs.length : Int)) && (n == argsOf p t))) := by
  show cond (decide (0 ≤ t)) _ _ = _
  by_cases h0 : 0 ≤ t
  · rw [dt h0]
    by_cases h1 : t < (p.funcs.length : Int)
    · obtain ⟨m, hm, he⟩ := args_at h0 h1
      rw [dt h1, hm]
      simp only [cond_true, Option.bind_some, Bool.true_and, he]
    · rw [df h1]; rfl
  · rw [df h0]; rfl
theorem specOpB {p : GProgram} {m : GFunc} {f : Nat} (hm : p.funcs[f]? = some m) (k : Nat) (pre : List GMov) (op to : Int) (l : List GI2) (t n : Int) :
    (spec_l10Ins.a4 k p.funcs pre op to l t (f : Int) n).bind (fun o4 => Sum.elim (fun o4l => some o4l) (fun o4r => cond ((o4r.2.2.1 == 32)) (cond ((o4r.2.2.2.1 == ((-1)))) (cond ((decide (o4r.2.2.2.2.2.1 ≥ 0))) (cond ((decide (o4r.2.2.2.2.2.1 < ((o4r.1.length : Int))))) ((idx o4r.1 o4r.2.2.2.2.2.1).bind fun m15 => some ((o4r.2.2.2.2.2.2 == m15.args))) (some false)) (some false)) ((spec_l10Loc o4r.2.2.2.1).bind fun t16 => cond t16 (cond ((decide (o4r.2.2.2.2.2.1 ≥ 0))) (cond ((decide (o4r.2.2.2.2.2.1 < ((o4r.1.length : Int))))) ((idx o4r.1 o4r.2.2.2.2.2.1).bind fun m17 => some ((o4r.2.2.2.2.2.2 == m17.args))) (some false)) (some false)) (some false))) (some false)) o4) = some (opB p m op to t n) := by
  unfold spec_l10Ins.a4 opB
  simp only [s5, s6, s7, Option.bind_some, specTakes, specLoc, idx_nat, hm]
  cases (op == 0) with
  | true => cases (to == -1) <;> cases (n == 0) <;> rfl
  | false =>
  simp only [cond_false]
  cases (op == 1) with
  | true => cases (locB to) <;> cases (n == 1) <;> rfl
  | false =>
  simp only [cond_false]
  cases (op == 3) with
  | true => cases (to == -1) <;> cases (n == 1) <;> cases (t == 1) <;> rfl
  | false =>
  simp only [cond_false]
  cases (clsA op) with
  | true => cases (to == -1) <;> cases (locB to) <;> cases (n == takesL p ⟨op, 0⟩) <;> rfl
  | false =>
  simp only [cond_false]
  cases (clsB op) with
  | true => cases (to == -1) <;> cases (n == takesL p ⟨op, 0⟩) <;> rfl
  | false =>
  simp only [cond_false]
  cases (clsJ op) with
  | true =>
    cases (to == -1) <;> cases (n == takesL p ⟨op, 0⟩) <;> try rfl
    show (cond (decide (0 ≤ t)) _ _ : Option (Bool ⊕ _)).bind _ = _
    cases decide (0 ≤ t) <;> rfl
  | false =>
  simp only [cond_false, Option.bind_some, Sum.elim_inr, callB_eq]
  cases (op == 32) with
  | true => cases (to == -1) <;> cases (locB to) <;> rfl
  | false => rfl
def insB (p : GProgram) (m : GFunc) (x : GAsmIns) : Bool := decide (x.pre.length ≤ 16) && (allB x.pre preB && (allB x.l someB && opB p m x.op x.to x.t (x.l.length : Int)))
theorem specIns2 {p : GProgram} {m : GFunc} {f : Nat} (hm : p.funcs[f]? = some m) (x : GAsmIns) (h1 : x.pre.length ≤ 1048576) (h2 : x.l.length ≤ 1048576) :
    Ev (fun k => spec_l10Ins k p (f : Int) x) (decide (x.l.length ≤ 16) && insB p m x) := by
  unfold spec_l10Ins insB
  by_cases c1 : (x.pre.length : Int) > 16
  · rw [df (show ¬ x.pre.length ≤ 16 by omega), Bool.false_and, Bool.and_false]
    refine Ev.bind (a := .inl false) ?_ (by simp only [Sum.elim_inl]; exact Ev.pure)
    unfold spec_l10Ins.a1
    exact Ev.ct (dt c1) Ev.pure
  by_cases c2 : (x.l.length : Int) > 16
  · rw [df (show ¬ x.l.length ≤ 16 by omega), Bool.false_and]
    refine Ev.bind (a := .inl false) ?_ (by simp only [Sum.elim_inl]; exact Ev.pure)
    unfold spec_l10Ins.a1
    exact Ev.cf (df c1) (Ev.ct (dt c2) Ev.pure)
  rw [dt (show x.l.length ≤ 16 by omega), dt (show x.pre.length ≤ 16 by omega), Bool.true_and, Bool.true_and]
  refine Ev.bind (a := .inr (p.funcs, x.pre, x.op, x.to, x.l, x.t, (f : Int))) ?_ ?_
  · unfold spec_l10Ins.a1
    exact Ev.cf (df c1) (Ev.cf (df c2) Ev.pure)
  simp only [Sum.elim_inr]
  refine Ev.bind (listLoop (fun k i => spec_l10Ins.l2 k p.funcs x.pre x.op x.to x.l x.t (f : Int) i) x.pre preB (p.funcs, x.pre, x.op, x.to, x.l, x.t, (f : Int)) (fun i mv hi => ?_) ?_) ?_
  · have hlt := (List.getElem?_eq_some_iff.1 hi).1
    constructor
    · intro hb v hv
      unfold preB at hb
      rw [Bool.and_eq_true] at hb
      refine Ev.succ ?_
      simp only [spec_l10Ins.l2]
      refine Ev.ct (dt (by omega)) (Ev.idx hi (Ev.bind (Ev.const (specLoc mv.to)) (Ev.cf (by rw [hb.1]; rfl) (Ev.bind (Ev.const (specSome mv.from0)) (Ev.cf (by rw [hb.2]; rfl) ?_)))))
      rw [wrap_nat (by omega)]
      exact hv
    · intro hb
      refine Ev.succ ?_
      simp only [spec_l10Ins.l2]
      refine Ev.ct (dt (by omega)) (Ev.idx hi (Ev.bind (Ev.const (specLoc mv.to)) ?_))
      unfold preB at hb
      cases e : locB mv.to with
      | false => exact Ev.ct rfl Ev.pure
      | true =>
        rw [e, Bool.true_and] at hb
        exact Ev.cf rfl (Ev.bind (Ev.const (specSome mv.from0)) (Ev.ct (by rw [hb]; rfl) Ev.pure))
  · refine Ev.succ ?_
    simp only [spec_l10Ins.l2]
    exact Ev.cf (df (by omega)) Ev.pure
  cases allB x.pre preB with
  | false => exact Ev.pure
  | true =>
  simp only [if_true, Sum.elim_inr, Bool.true_and]
  refine Ev.bind (listLoop (fun k i => spec_l10Ins.l3 k p.funcs x.pre x.op x.to x.l x.t (f : Int) i) x.l someB (p.funcs, x.pre, x.op, x.to, x.l, x.t, (f : Int)) (fun i v hi => ?_) ?_) ?_
  · have hlt := (List.getElem?_eq_some_iff.1 hi).1
    constructor
    · intro hb w hw
      refine Ev.succ ?_
      simp only [spec_l10Ins.l3]
      refine Ev.ct (dt (by omega)) (Ev.idx hi (Ev.bind (Ev.const (specSome v)) (Ev.cf (by rw [hb]; rfl) ?_)))
      rw [wrap_nat (by omega)]
      exact hw
    · intro hb
      refine Ev.succ ?_
      simp only [spec_l10Ins.l3]
      exact Ev.ct (dt (by omega)) (Ev.idx hi (Ev.bind (Ev.const (specSome v)) (Ev.ct (by rw [hb]; rfl) Ev.pure)))
  · refine Ev.succ ?_
    simp only [spec_l10Ins.l3]
    exact Ev.cf (df (by omega)) Ev.pure
  cases allB x.l someB with
  | false => exact Ev.pure
  | true =>
  simp only [if_true, Sum.elim_inr, Bool.true_and]
  exact Ev.of fun k => specOpB hm k x.pre x.op x.to x.l x.t (x.l.length : Int)
theorem takes_small {p : GProgram} (hp : RightP p) (i : GI2) : takesL p i ≤ 4 := (takesN hp.normal i).2
theorem opB_len {p : GProgram} (hp : RightP p) {m : GFunc} {op to t n : Int} (h : opB p m op to t n = true) : n ≤ 4 := by
  unfold opB at h
  have ht := takes_small hp ⟨op, 0⟩
  have key : ∀ {a : Bool} {c : Int} {b : Bool}, (a && ((n == c) && b)) = true → n = c := by
    intro a c b h
    simp only [Bool.and_eq_true, beq_iff_eq] at h
    exact h.2.1
  cases e0 : (op == 0) with
  | true => rw [e0, cond_true] at h; have := key h; omega
  | false =>
  rw [e0, cond_false] at h
  cases e1 : (op == 1) with
  | true => rw [e1, cond_true] at h; have := key h; omega
  | false =>
  rw [e1, cond_false] at h
  cases e3 : (op == 3) with
  | true => rw [e3, cond_true] at h; have := key h; omega
  | false =>
  rw [e3, cond_false] at h
  cases eA : clsA op with
  | true => rw [eA, cond_true] at h; have := key h; omega
  | false =>
  rw [eA, cond_false] at h
  cases eB : clsB op with
  | true => rw [eB, cond_true] at h; have := key h; omega
  | false =>
  rw [eB, cond_false] at h
  cases eJ : clsJ op with
  | true => rw [eJ, cond_true] at h; have := key h; omega
  | false =>
  rw [eJ, cond_false] at h
  cases eC : (op == 32) with
  | false => rw [eC, cond_false] at h; cases h
  | true =>
    rw [eC, cond_true] at h
    simp only [Bool.and_eq_true, beq_iff_eq, decide_eq_true_eq] at h
    obtain ⟨-, h0, h1, h2⟩ := h
    obtain ⟨mm, hmm, he⟩ := args_at h0 h1
    rw [idx_of h0] at hmm
    have := (hp.normal mm (List.mem_of_getElem? hmm)).2
    omega
theorem insB_len {p : GProgram} (hp : RightP p) {m : GFunc} {x : GAsmIns} (h : insB p m x = true) : x.l.length ≤ 16 := by
  unfold insB at h
  simp only [Bool.and_eq_true] at h
  have := opB_len hp h.2.2.2
  omega
theorem specIns3 {p : GProgram} (hp : RightP p) {m : GFunc} {f : Nat} (hm : p.funcs[f]? = some m) (x : GAsmIns) (h1 : x.pre.length ≤ 1048576) (h2 : x.l.length ≤ 1048576) :
    Ev (fun k => spec_l10Ins k p (f : Int) x) (insB p m x) := by
  have h := specIns2 hm x h1 h2
  have e : (decide (x.l.length ≤ 16) && insB p m x) = insB p m x := by
    cases e : insB p m x with
    | false => simp
    | true => rw [dt (insB_len hp e)]; rfl
  rw [e] at h
  exact h
theorem someAll_ev (l : List GI2) (h : l.length ≤ 1048576) : Ev (fun k => impl_someAll k l) (allB l someB) := by
  unfold impl_someAll
  refine Ev.bind (listLoop (fun k i => impl_someAll.l1 k l (l.length : Int) i) l someB () (fun i v hi => ?_) ?_) ?_
  · have hlt := (List.getElem?_eq_some_iff.1 hi).1
    constructor
    · intro hb w hw
      refine Ev.succ ?_
      simp only [impl_someAll.l1]
      refine Ev.ct (dt (by omega)) (Ev.idx hi (Ev.bind (Ev.const (implSome v)) (Ev.cf (by rw [hb]; rfl) ?_)))
      rw [wrap_nat (by omega)]
      exact hw
    · intro hb
      refine Ev.succ ?_
      simp only [impl_someAll.l1]
      exact Ev.ct (dt (by omega)) (Ev.idx hi (Ev.bind (Ev.const (implSome v)) (Ev.ct (by rw [hb]; rfl) Ev.pure)))
  · refine Ev.succ ?_
    simp only [impl_someAll.l1]
    exact Ev.cf (df (by omega)) Ev.pure
  cases allB l someB <;> exact Ev.pure
theorem opB_to {p : GProgram} {m : GFunc} {op to t n : Int} (h : ((to == -1) || locB to) = false) : opB p m op to t n = false := by
  rw [Bool.or_eq_false_iff] at h
  unfold opB
  rw [h.1, h.2]
  simp only [Bool.false_and, Bool.or_self]
  cases (op == 0) <;> cases (op == 1) <;> cases (op == 3) <;> cases (clsA op) <;> cases (clsB op) <;> cases (clsJ op) <;> cases (op == 32) <;> rfl
theorem place_eq {p : GProgram} {hs : List (List Int)} {m : GFunc} {f : Nat} (hm : p.funcs[f]? = some m) (h1 : 1 ≤ m.code.length) (h2 : m.code.length ≤ 60) (t : Int) : impl_prog_place ⟨p, hs⟩ (f : Int) t = some (decide (0 ≤ t) && decide (t < (m.code.length : Int))) := by
  unfold impl_prog_place impl_prog_code
  rw [idx_nat, hm]
  simp only [Option.bind_some]
  rw [wrap_id (by omega) (by omega), impl_in_eq]
  simp only [Option.bind_some]
  rw [← Bool.decide_and]
  congr 1
  rw [decide_eq_decide]
  omega
theorem implIns2 {p : GProgram} {hs : List (List Int)} {m : GFunc} {f : Nat} (hm : p.funcs[f]? = some m) (hc1 : 1 ≤ m.code.length) (hc2 : m.code.length ≤ 60) (x : GAsmIns) (h1 : x.pre.length ≤ 1048576) (h2 : x.l.length ≤ 1048576) :
    Ev (fun k => impl_prog_insRight k ⟨p, hs⟩ (f : Int) x) (insB p m x) := by
  obtain ⟨pre, op, to, l, t⟩ := x
  unfold impl_prog_insRight insB
  dsimp only at *
  by_cases c1 : (pre.length : Int) > 16
  · rw [df (show ¬ pre.length ≤ 16 by omega), Bool.false_and]
    refine Ev.bind (a := .inl false) ?_ (by simp only [Sum.elim_inl]; exact Ev.pure)
    unfold impl_prog_insRight.a1
    exact Ev.ct (dt c1) Ev.pure
  rw [dt (show pre.length ≤ 16 by omega), Bool.true_and]
  cases eS : allB l someB with
  | false =>
    rw [Bool.false_and, Bool.and_false]
    refine Ev.bind (a := .inl false) ?_ (by simp only [Sum.elim_inl]; exact Ev.pure)
    unfold impl_prog_insRight.a1
    exact Ev.cf (df c1) (Ev.bind (someAll_ev l h2) (Ev.ct (by rw [eS]; rfl) Ev.pure))
  | true =>
  rw [Bool.true_and]
  cases eT : ((to == -1) || locB to) with
  | false =>
    rw [opB_to eT, Bool.and_false]
    rw [Bool.or_eq_false_iff] at eT
    refine Ev.bind (a := .inl false) ?_ (by simp only [Sum.elim_inl]; exact Ev.pure)
    unfold impl_prog_insRight.a1
    exact Ev.cf (df c1) (Ev.bind (someAll_ev l h2) (Ev.cf (by rw [eS]; rfl) (Ev.ct (by simpa [bne] using eT.1) (Ev.bind (Ev.const (implLoc to)) (Ev.ct (by rw [eT.2]; rfl) Ev.pure)))))
  | true =>
  refine Ev.bind (a := .inr (pre, op, to, l, t, ⟨p, hs⟩, (f : Int))) ?_ ?_
  · unfold impl_prog_insRight.a1
    refine Ev.cf (df c1) (Ev.bind (someAll_ev l h2) (Ev.cf (by rw [eS]; rfl) ?_))
    by_cases c : to = -1
    · exact Ev.cf (by simp [c]) Ev.pure
    · have : locB to = true := by simpa [bf c] using eT
      exact Ev.ct (by simp [c]) (Ev.bind (Ev.const (implLoc to)) (Ev.cf (by rw [this]; rfl) Ev.pure))
  simp only [Sum.elim_inr]
  refine Ev.bind (listLoop (fun k i => impl_prog_insRight.l2 k pre op to l t ⟨p, hs⟩ (f : Int) pre (pre.length : Int) i) pre preB (pre, op, to, l, t, ⟨p, hs⟩, (f : Int)) (fun i mv hi => ?_) ?_) ?_
  · have hlt := (List.getElem?_eq_some_iff.1 hi).1
    constructor
    · intro hb v hv
      unfold preB at hb
      rw [Bool.and_eq_true] at hb
      refine Ev.succ ?_
      simp only [impl_prog_insRight.l2]
      refine Ev.ct (dt (by omega)) (Ev.idx hi (Ev.bind (Ev.const (implLoc mv.to)) (Ev.cf (by rw [hb.1]; rfl) (Ev.bind (Ev.const (implSome mv.from0)) (Ev.cf (by rw [hb.2]; rfl) ?_)))))
      rw [wrap_nat (by omega)]
      exact hv
    · intro hb
      refine Ev.succ ?_
      simp only [impl_prog_insRight.l2]
      refine Ev.ct (dt (by omega)) (Ev.idx hi (Ev.bind (Ev.const (implLoc mv.to)) ?_))
      unfold preB at hb
      cases e : locB mv.to with
      | false => exact Ev.ct rfl Ev.pure
      | true =>
        rw [e, Bool.true_and] at hb
        exact Ev.cf rfl (Ev.bind (Ev.const (implSome mv.from0)) (Ev.ct (by rw [hb]; rfl) Ev.pure))
  · refine Ev.succ ?_
    simp only [impl_prog_insRight.l2]
    exact Ev.cf (df (by omega)) Ev.pure
  cases allB pre preB with
  | false => exact Ev.pure
  | true =>
  simp only [if_true, Sum.elim_inr, Bool.true_and]
  refine Ev.of fun k => ?_
  have hpl := place_eq (hs := hs) hm hc1 hc2 t
  have hTo : (!(to == -1)) = locB to := by
    by_cases c : to = -1
    · rw [c]; rfl
    · rw [bf c] at eT ⊢
      simpa using eT.symm
  unfold opB
  simp only [i3, i4, Option.bind_some, implTakes, hpl, hTo, hasFunc_eq]
  have eA : ∀ c, clsA op = c → clsA op = c := fun _ h => h
  by_cases o0 : op = 0
  · subst o0; cases (to == -1) <;> cases ((l.length : Int) == 0) <;> rfl
  by_cases o1 : op = 1
  · subst o1; cases (locB to) <;> cases ((l.length : Int) == 1) <;> rfl
  by_cases o3 : op = 3
  · subst o3; cases (to == -1) <;> cases ((l.length : Int) == 1) <;> cases (t == 1) <;> rfl
  by_cases o30 : op = 30
  · subst o30
    rw [show takesL p ⟨30, 0⟩ = 0 from rfl]
    cases (to == -1) <;> cases ((l.length : Int) == 0) <;> rfl
  by_cases o31 : op = 31
  · subst o31
    rw [show takesL p ⟨31, 0⟩ = 1 from rfl]
    cases (to == -1) <;> cases ((l.length : Int) == 1) <;> rfl
  by_cases o32 : op = 32
  · subst o32
    have q := callB_eq (p := p) t (l.length : Int)
    have e2 : decide (0 ≤ t ∧ t < (p.funcs.length : Int)) = (decide (0 ≤ t) && decide (t < (p.funcs.length : Int))) := Bool.decide_and _ _
    rw [e2]
    rw [eT]
    show cond (decide (0 ≤ t) && decide (t < (p.funcs.length : Int))) _ _ = some (true && (decide (0 ≤ t) && (decide (t < (p.funcs.length : Int)) && ((l.length : Int) == argsOf p t))))
    by_cases h0 : 0 ≤ t
    · rw [dt h0]
      by_cases h1 : t < (p.funcs.length : Int)
      · obtain ⟨mm, hmm, he⟩ := args_at h0 h1
        rw [dt h1, hmm]
        simp only [cond_true, Option.bind_some, Bool.true_and, he, Bool.and_self]
      · rw [df h1]; rfl
    · rw [df h0]; rfl
  have eJ : clsJ op = false := df (by omega)
  rw [bf o0, bf o1, bf o3, bf o30, bf o31, bf o32, eJ]
  simp only [cond_false]
  cases eB : clsB op with
  | true =>
    have : clsA op = false := by
      unfold clsB at eB; unfold clsA
      have := of_decide_eq_true eB
      exact df (by omega)
    rw [this]
    cases (to == -1) <;> cases ((l.length : Int) == takesL p ⟨op, 0⟩) <;> rfl
  | false =>
    rw [eT]
    cases (clsA op) <;> cases ((l.length : Int) == takesL p ⟨op, 0⟩) <;> rfl
theorem reach_at {p : GProgram} {hs : List (List Int)} {f x : Nat} {h : List Int} {y : Int} (hf : f < p.funcs.length) (hh : hs[f]? = some h) (hy : h[x]? = some y) : impl_prog_reached ⟨p, hs⟩ (f : Int) (x : Int) = some (decide (0 ≤ y)) := by
  unfold impl_prog_reached
  rw [hasFunc_eq, decide_eq_true (show (0 : Int) ≤ (f : Int) ∧ (f : Int) < (p.funcs.length : Int) by omega)]
  have := (List.getElem?_eq_some_iff.1 hy).1
  simp only [Option.bind_some, cond_true]
  rw [decide_eq_true (show (x : Int) ≥ 0 by omega), cond_true, idx_nat, hh]
  simp only [Option.bind_some]
  rw [decide_eq_true (show (x : Int) < (h.length : Int) by omega), cond_true, idx_nat, hy]
  rfl
def bareB (x : GAsmIns) : Bool := decide (x.pre.length = 0) && ((x.op == 0) && ((x.to == -1) && (decide (x.l.length = 0) && (x.t == 0))))
theorem bare_of {x : GAsmIns} (h : bareB x = true) : x = ⟨[], 0, -1, [], 0⟩ := by
  unfold bareB at h
  simp only [Bool.and_eq_true, decide_eq_true_eq, beq_iff_eq] at h
  obtain ⟨pre, op, to, l, t⟩ := x
  obtain ⟨h1, h2, h3, h4, h5⟩ := h
  dsimp only at *
  rw [List.eq_nil_of_length_eq_zero h1, List.eq_nil_of_length_eq_zero h4, h2, h3, h5]
theorem bare_ins {p : GProgram} {m : GFunc} {x : GAsmIns} (h : bareB x = true) : insB p m x = true := by
  rw [bare_of h]; rfl
theorem ins_bare {p : GProgram} {m : GFunc} {x : GAsmIns} (h : insB p m x = true) (h1 : x.op = 0) (h2 : x.pre.length = 0) : bareB x = true := by
  unfold insB at h
  unfold bareB
  simp only [Bool.and_eq_true] at h
  have h3 := h.2.2.2
  rw [h1] at h3
  unfold opB at h3
  have h3 : ((x.to == -1) && (((x.l.length : Int) == 0) && (x.t == 0))) = true := h3
  simp only [Bool.and_eq_true, beq_iff_eq] at h3
  obtain ⟨q1, q2, q3⟩ := h3
  simp only [Bool.and_eq_true, decide_eq_true_eq, beq_iff_eq]
  exact ⟨h2, h1, q1, by omega, q3⟩
theorem sameBare_ev (x : GAsmIns) : Ev (fun k => impl_sameIns k x ⟨[], 0, -1, [], 0⟩) (bareB x) := by
  obtain ⟨pre, op, to, l, t⟩ := x
  unfold impl_sameIns bareB
  dsimp only
  have e1 : Ev (fun k => slices_Equal_impl_Mov_impl_Mov k pre []) (decide (pre.length = 0)) := by
    unfold slices_Equal_impl_Mov_impl_Mov
    by_cases c : pre.length = 0
    · refine Ev.cf (by simp [c]) (Ev.bind (a := .inr ()) (Ev.succ ?_) ?_)
      · simp only [slices_Equal_impl_Mov_impl_Mov.l1]
        exact Ev.cf (df (by omega)) Ev.pure
      · rw [dt c]; exact Ev.pure
    · rw [df c]
      exact Ev.ct (by simp; intro h; exact c (by rw [h]; rfl)) Ev.pure
  have e2 : Ev (fun k => slices_Equal_impl_Val_impl_Val k l []) (decide (l.length = 0)) := by
    unfold slices_Equal_impl_Val_impl_Val
    by_cases c : l.length = 0
    · refine Ev.cf (by simp [c]) (Ev.bind (a := .inr ()) (Ev.succ ?_) ?_)
      · simp only [slices_Equal_impl_Val_impl_Val.l1]
        exact Ev.cf (df (by omega)) Ev.pure
      · rw [dt c]; exact Ev.pure
    · rw [df c]
      exact Ev.ct (by simp; intro h; exact c (by rw [h]; rfl)) Ev.pure
  refine Ev.bind e1 ?_
  cases decide (pre.length = 0) with
  | false => exact Ev.cf rfl Ev.pure
  | true =>
  refine Ev.ct rfl ?_
  cases (op == 0) with
  | false => exact Ev.cf rfl Ev.pure
  | true =>
  refine Ev.ct rfl ?_
  cases (to == -1) with
  | false => exact Ev.cf rfl Ev.pure
  | true =>
  refine Ev.ct rfl (Ev.bind e2 ?_)
  cases decide (l.length = 0) with
  | false => exact Ev.cf rfl Ev.pure
  | true => exact Ev.ct rfl Ev.pure
def rowB (p : GProgram) (m : GFunc) (y : Int) (x : GAsmIns) (v : List GI2) : Bool :=
  if y < 0 then decide (v.length = 0) && bareB x else decide ((v.length : Int) = m.locals + y) && (insB p m x && allB v valB)
theorem specRow {p : GProgram} (hp : RightP p) {m : GFunc} {f i : Nat} {h : List Int} {y : Int} {code : List GAsmIns} {maps : List (List GI2)} {x : GAsmIns} {v : List GI2}
    (hm : p.funcs[f]? = some m) (hy : h[i]? = some y) (hx : code[i]? = some x) (hv : maps[i]? = some v) (h1 : x.pre.length ≤ 1048576) (h2 : x.l.length ≤ 1048576) (h3 : v.length ≤ 1048576) (hl : 0 ≤ m.locals ∧ m.locals ≤ 8) (hA : A1 y) :
    Ev (fun k => spec_AsmRight.a3 k p.funcs (f : Int) code maps h (i : Int)) (if rowB p m y x v = true then .inr (p.funcs, (f : Int), code, maps, h, (i : Int)) else .inl false) := by
  unfold spec_AsmRight.a3
  refine Ev.idx hx ?_
  have hins : Ev (fun k => spec_l10Ins k p (f : Int) ⟨x.pre, x.op, x.to, x.l, x.t⟩) (insB p m x) := specIns3 hp hm x h1 h2
  have fin : ∀ (n : Int), (insB p m x = true) → (∀ b : Bool, b = (decide ((v.length : Int) = n) && allB v valB) → b = rowB p m y x v) →
      Ev (fun k => (idx maps (i : Int)).bind fun m9 => cond ((((m9.length : Int)) != n)) (some (.inl (false))) ((spec_AsmRight.l6 k p.funcs (f : Int) code maps h (i : Int) 0).bind fun o6 => Sum.elim (fun o6l => some (.inl (o6l))) (fun o6r => some (.inr (o6r.1, o6r.2.1, o6r.2.2.1, o6r.2.2.2.1, o6r.2.2.2.2.1, o6r.2.2.2.2.2))) o6))
        (if rowB p m y x v = true then (.inr (p.funcs, (f : Int), code, maps, h, (i : Int)) : Bool ⊕ _) else .inl false) := by
    intro n _ hb
    have hb := hb _ rfl
    rw [← hb]
    refine Ev.idx hv ?_
    by_cases c : (v.length : Int) = n
    · refine Ev.cf (by simp [c]) ?_
      rw [dt c, Bool.true_and]
      refine Ev.bind (listLoop (fun k j => spec_AsmRight.l6 k p.funcs (f : Int) code maps h (i : Int) j) v valB (p.funcs, (f : Int), code, maps, h, (i : Int)) (fun j u hj => ?_) ?_) ?_
      · have hlt := (List.getElem?_eq_some_iff.1 hj).1
        constructor
        · intro hb w hw
          refine Ev.succ ?_
          simp only [spec_AsmRight.l6]
          refine Ev.idx hv (Ev.ct (dt (by omega)) (Ev.idx hj (Ev.bind (Ev.const (specVal u)) (Ev.cf (by rw [hb]; rfl) ?_))))
          rw [wrap_nat (by omega)]
          exact hw
        · intro hb
          refine Ev.succ ?_
          simp only [spec_AsmRight.l6]
          exact Ev.idx hv (Ev.ct (dt (by omega)) (Ev.idx hj (Ev.bind (Ev.const (specVal u)) (Ev.ct (by rw [hb]; rfl) Ev.pure))))
      · refine Ev.succ ?_
        simp only [spec_AsmRight.l6]
        exact Ev.idx hv (Ev.cf (df (by omega)) Ev.pure)
      cases allB v valB <;> exact Ev.pure
    · rw [df c, Bool.false_and]
      exact Ev.ct (by simp [c]) Ev.pure
  cases eI : insB p m x with
  | false =>
    have e : rowB p m y x v = false := by
      unfold rowB
      split
      · cases e : bareB x with
        | false => simp
        | true => rw [bare_ins e] at eI; cases eI
      · rw [eI]; simp
    rw [e]
    refine Ev.bind (a := .inl false) ?_ (by simp only [Sum.elim_inl]; exact Ev.pure)
    unfold spec_AsmRight.a4
    exact Ev.bind hins (Ev.ct (by rw [eI]; rfl) Ev.pure)
  | true =>
  by_cases cy : y < 0
  · by_cases c0 : x.op = 0
    · by_cases c1 : x.pre.length = 0
      · have eb := ins_bare eI c0 c1
        refine Ev.bind (a := .inr (p.funcs, (f : Int), code, maps, h, (i : Int))) ?_ ?_
        · unfold spec_AsmRight.a4
          refine Ev.bind hins (Ev.cf (by rw [eI]; rfl) (Ev.idx hy (Ev.ct (dt cy) (Ev.cf (by simp [c0]) (Ev.cf (df (by omega)) Ev.pure)))))
        simp only [Sum.elim_inr]
        refine Ev.bind (a := (p.funcs, (f : Int), code, maps, h, (i : Int), 0)) ?_ ?_
        · unfold spec_AsmRight.a5
          exact Ev.idx hy (Ev.cf (df (by omega)) Ev.pure)
        refine fin 0 eI ?_
        rintro b rfl
        unfold rowB
        rw [if_pos cy, eb, Bool.and_true]
        by_cases c : v.length = 0
        · rw [dt c, dt (show (v.length : Int) = 0 by omega), List.eq_nil_of_length_eq_zero c]; rfl
        · rw [df c, df (show ¬ (v.length : Int) = 0 by omega)]; rfl
      · have e : rowB p m y x v = false := by
          unfold rowB bareB
          rw [if_pos cy, df c1]; simp
        rw [e]
        refine Ev.bind (a := .inl false) ?_ (by simp only [Sum.elim_inl]; exact Ev.pure)
        unfold spec_AsmRight.a4
        exact Ev.bind hins (Ev.cf (by rw [eI]; rfl) (Ev.idx hy (Ev.ct (dt cy) (Ev.cf (by simp [c0]) (Ev.ct (dt (by omega)) Ev.pure)))))
    · have e : rowB p m y x v = false := by
        unfold rowB bareB
        rw [if_pos cy, bf c0]; simp
      rw [e]
      refine Ev.bind (a := .inl false) ?_ (by simp only [Sum.elim_inl]; exact Ev.pure)
      unfold spec_AsmRight.a4
      exact Ev.bind hins (Ev.cf (by rw [eI]; rfl) (Ev.idx hy (Ev.ct (dt cy) (Ev.ct (by simp [bne, bf c0]) Ev.pure))))
  · refine Ev.bind (a := .inr (p.funcs, (f : Int), code, maps, h, (i : Int))) ?_ ?_
    · unfold spec_AsmRight.a4
      exact Ev.bind hins (Ev.cf (by rw [eI]; rfl) (Ev.idx hy (Ev.cf (df cy) Ev.pure)))
    simp only [Sum.elim_inr]
    refine Ev.bind (a := (p.funcs, (f : Int), code, maps, h, (i : Int), m.locals + y)) ?_ ?_
    · unfold spec_AsmRight.a5
      refine Ev.idx hy (Ev.ct (dt (by omega)) (Ev.idx hm ?_))
      rw [wrap_id (by omega) (by omega)]
      exact Ev.pure
    refine fin _ eI ?_
    rintro b rfl
    unfold rowB
    rw [if_neg cy, eI, Bool.true_and]
theorem implRow {p : GProgram} (hp : RightP p) {hs : List (List Int)} {m : GFunc} {f i : Nat} {h : List Int} {y N : Int} {code : List GAsmIns} {maps : List (List GI2)} {x : GAsmIns} {v : List GI2}
    (hm : p.funcs[f]? = some m) (hh : hs[f]? = some h) (hy : h[i]? = some y) (hx : code[i]? = some x) (hv : maps[i]? = some v) (h1 : x.pre.length ≤ 1048576) (h2 : x.l.length ≤ 1048576) (h3 : v.length ≤ 1048576) (hl : 0 ≤ m.locals ∧ m.locals ≤ 8) (hA : A1 y) (hc : 1 ≤ m.code.length ∧ m.code.length ≤ 60) :
    Ev (fun k => impl_prog_asmRight.a3 k (f : Int) code maps ⟨p, hs⟩ code N (i : Int)) (if rowB p m y x v = true then .inr ((f : Int), code, maps, ⟨p, hs⟩, code, N, (i : Int)) else .inl false) := by
  unfold impl_prog_asmRight.a3
  have hf : f < p.funcs.length := (List.getElem?_eq_some_iff.1 hm).1
  refine Ev.idx hx (Ev.bind (Ev.const (reach_at hf hh hy)) ?_)
  by_cases cy : 0 ≤ y
  · rw [dt cy]
    refine Ev.cf rfl ?_
    have hsl : impl_prog_slots ⟨p, hs⟩ (f : Int) (i : Int) = some (m.locals + y) := by
      unfold impl_prog_slots
      dsimp only
      rw [idx_nat, hm]
      simp only [Option.bind_some]
      rw [idx_nat, hh]
      simp only [Option.bind_some]
      rw [idx_nat, hy]
      simp only [Option.bind_some]
      rw [wrap_id (by omega) (by omega)]
    have hins : Ev (fun k => impl_prog_insRight k ⟨p, hs⟩ (f : Int) ⟨x.pre, x.op, x.to, x.l, x.t⟩) (insB p m x) := implIns2 hm hc.1 hc.2 x h1 h2
    unfold rowB
    rw [if_neg (show ¬ y < 0 by omega)]
    by_cases c : (v.length : Int) = m.locals + y
    · rw [dt c, Bool.true_and]
      cases eI : insB p m x with
      | false =>
        rw [Bool.false_and]
        refine Ev.bind (a := .inl false) ?_ (by simp only [Sum.elim_inl]; exact Ev.pure)
        unfold impl_prog_asmRight.a4
        exact Ev.idx hv (Ev.bind (Ev.const hsl) (Ev.cf (by simp [c]) (Ev.bind hins (Ev.ct (by rw [eI]; rfl) Ev.pure))))
      | true =>
        rw [Bool.true_and]
        refine Ev.bind (a := .inr ((f : Int), code, maps, ⟨p, hs⟩, (i : Int), code, N, (i : Int))) ?_ ?_
        · unfold impl_prog_asmRight.a4
          exact Ev.idx hv (Ev.bind (Ev.const hsl) (Ev.cf (by simp [c]) (Ev.bind hins (Ev.cf (by rw [eI]; rfl) Ev.pure))))
        simp only [Sum.elim_inr]
        refine Ev.idx hv (Ev.bind (listLoop (fun k j => impl_prog_asmRight.l5 k (f : Int) code maps ⟨p, hs⟩ code N (i : Int) v (v.length : Int) j) v valB ((f : Int), code, maps, ⟨p, hs⟩, code, N, (i : Int)) (fun j u hj => ?_) ?_) ?_)
        · have hlt := (List.getElem?_eq_some_iff.1 hj).1
          constructor
          · intro hb w hw
            refine Ev.succ ?_
            simp only [impl_prog_asmRight.l5]
            refine Ev.ct (dt (by omega)) (Ev.idx hj (Ev.bind (Ev.const (implVal u)) (Ev.cf (by rw [hb]; rfl) ?_)))
            rw [wrap_nat (by omega)]
            exact hw
          · intro hb
            refine Ev.succ ?_
            simp only [impl_prog_asmRight.l5]
            exact Ev.ct (dt (by omega)) (Ev.idx hj (Ev.bind (Ev.const (implVal u)) (Ev.ct (by rw [hb]; rfl) Ev.pure)))
        · refine Ev.succ ?_
          simp only [impl_prog_asmRight.l5]
          exact Ev.cf (df (by omega)) Ev.pure
        cases allB v valB <;> exact Ev.pure
    · rw [df c, Bool.false_and]
      refine Ev.bind (a := .inl false) ?_ (by simp only [Sum.elim_inl]; exact Ev.pure)
      unfold impl_prog_asmRight.a4
      exact Ev.idx hv (Ev.bind (Ev.const hsl) (Ev.ct (by simp [c]) Ev.pure))
  · rw [df cy]
    unfold rowB
    rw [if_pos (show y < 0 by omega)]
    refine Ev.ct rfl (Ev.idx hv ?_)
    by_cases c : v.length = 0
    · rw [dt c, Bool.true_and]
      refine Ev.cf (by simp [c]) (Ev.bind (Ev.const (v := (⟨[], 0, -1, [], 0⟩ : GAsmIns)) rfl) (Ev.bind (sameBare_ev x) ?_))
      cases bareB x with
      | false => exact Ev.ct rfl Ev.pure
      | true => exact Ev.cf rfl Ev.pure
    · rw [df c, Bool.false_and]
      exact Ev.ct (by simp; intro h; exact c (by rw [h]; rfl)) Ev.pure
structure RowGood (x : GAsmIns) (w : List GI2) : Prop where
  pre : x.pre.length ≤ 16
  l : x.l.length ≤ 16
  wl : w.length ≤ 16
  pres : ∀ m ∈ x.pre, preB m = true
  ls : ∀ y ∈ x.l, valB y = true
  vs : ∀ y ∈ w, valB y = true
  op : x.op = 0 ∨ x.op = 1 ∨ x.op = 3 ∨ 10 ≤ x.op
  to : -1 ≤ x.to ∧ x.to < 22
theorem opB_op {p : GProgram} {m : GFunc} {op to t n : Int} (h : opB p m op to t n = true) : op = 0 ∨ op = 1 ∨ op = 3 ∨ 10 ≤ op := by
  by_cases c : op = 0 ∨ op = 1 ∨ op = 3 ∨ 10 ≤ op
  · exact c
  · exfalso
    unfold opB at h
    rw [bf (show ¬ op = 0 by omega), bf (show ¬ op = 1 by omega), bf (show ¬ op = 3 by omega), bf (show ¬ op = 32 by omega), show clsA op = false from df (by omega), show clsB op = false from df (by omega), show clsJ op = false from df (by omega)] at h
    cases h
theorem opB_tor {p : GProgram} {m : GFunc} {op to t n : Int} (h : opB p m op to t n = true) : -1 ≤ to ∧ to < 22 := by
  cases e : ((to == -1) || locB to) with
  | false => rw [opB_to e] at h; cases h
  | true =>
    rw [Bool.or_eq_true, beq_iff_eq] at e
    rcases e with e | e
    · omega
    · have := of_decide_eq_true e; omega
theorem row_good {p : GProgram} (hp : RightP p) {m : GFunc} {y : Int} {x : GAsmIns} {v : List GI2} (hl : 0 ≤ m.locals ∧ m.locals ≤ 8) (hA : A1 y) (h : rowB p m y x v = true) : RowGood x v := by
  unfold rowB at h
  split at h
  · rw [Bool.and_eq_true, decide_eq_true_eq] at h
    rw [bare_of h.2, List.eq_nil_of_length_eq_zero h.1]
    exact ⟨by simp, by simp, by simp, by simp, by simp, by simp, .inl rfl, by simp⟩
  · simp only [Bool.and_eq_true, decide_eq_true_eq] at h
    obtain ⟨h1, h2, h3⟩ := h
    have h4 := insB_len hp h2
    unfold insB at h2
    simp only [Bool.and_eq_true, decide_eq_true_eq] at h2
    obtain ⟨q1, q2, q3, q4⟩ := h2
    refine ⟨q1, h4, by omega, allB_mem q2, fun z hz => ?_, allB_mem h3, opB_op q4, opB_tor q4⟩
    have := allB_mem q3 z hz
    unfold someB at this
    rw [Bool.and_eq_true] at this
    exact this.1
structure AOk (a : GAsm) : Prop where
  code : a.code.length ≤ 60
  maps : a.maps.length = a.code.length
  rows : ∀ (i : Nat) (x : GAsmIns) (v : List GI2), a.code[i]? = some x → a.maps[i]? = some v → RowGood x v
theorem asm_both {p : GProgram} {a : GAsm} (ha : Args64 p) (hn : p.funcs.length ≤ 1048576) (hA : SmallA a) :
    ∃ b, Ev (fun k => spec_AsmRight k p a) b ∧ Ev (fun k => impl_AsmRight k p a) b ∧ (b = true → AOk a) := by
  obtain ⟨fn, code, maps⟩ := a
  obtain ⟨hs, ok, hk, hok, hts⟩ := known_ev ha hn
  obtain ⟨ok2, s1, s2⟩ := specIs_ev ha hn fn
  by_cases c : RightP p ∧ 0 ≤ fn ∧ fn < (p.funcs.length : Int)
  · have e1 : ok = true := hok.2 c.1
    have e2 : ok2 = true := s2.2 c
    subst e1 e2
    obtain ⟨hp, hf0, hf1⟩ := c
    obtain ⟨f, rfl⟩ := Int.eq_ofNat_of_zero_le hf0
    obtain ⟨m, hm⟩ := list_get (show f < p.funcs.length by omega)
    obtain ⟨h, hh, hr, hlen⟩ := (hts hp).at_ f m hm
    have hmem := List.mem_of_getElem? hm
    have hF := (hp.all m hmem).1
    obtain ⟨-, hA1, -⟩ := heights_past hp hmem hr
    have hl : 0 ≤ m.locals ∧ m.locals ≤ 8 := by have := hF.args; have := hF.locals; omega
    have hcd : impl_prog_code ⟨p, hs⟩ (f : Int) = some m.code := by
      unfold impl_prog_code
      rw [idx_nat, hm]; rfl
    have hfun : impl_hasFunc p (f : Int) = some true := by rw [hasFunc_eq, dt ⟨hf0, hf1⟩]
    by_cases c1 : code.length = m.code.length
    · by_cases c2 : maps.length = code.length
      · have hcl := hF.code
        let b : Nat → Bool := fun i => match h[i]?, code[i]?, maps[i]? with | some y, some x, some v => rowB p m y x v | _, _, _ => true
        have get : ∀ i, i < code.length → ∃ y x v, h[i]? = some y ∧ code[i]? = some x ∧ maps[i]? = some v ∧ b i = rowB p m y x v := by
          intro i hi
          obtain ⟨y, hy⟩ := list_get (show i < h.length by omega)
          obtain ⟨x, hx⟩ := list_get hi
          obtain ⟨v, hv⟩ := list_get (show i < maps.length by omega)
          exact ⟨y, x, v, hy, hx, hv, by simp only [b, hy, hx, hv]⟩
        refine ⟨(List.range code.length).all b, ?_, ?_, fun hb => ⟨by dsimp only; omega, c2, fun i x v hx hv => ?_⟩⟩
        · unfold spec_AsmRight
          dsimp only
          refine Ev.bind (a := .inr (p.funcs, (f : Int), code, maps)) ?_ ?_
          · unfold spec_AsmRight.a1
            exact Ev.bind s1 (Ev.cf rfl (Ev.idx hm (Ev.cf (by simp [c1]) (Ev.cf (by simp [c2]) Ev.pure))))
          simp only [Sum.elim_inr]
          refine Ev.bind (specHeightsN ha hp hm hr) (Ev.bind (allLoop (fun k i => spec_AsmRight.l2 k p.funcs (f : Int) code maps h i) code.length b () (fun i hi => ?_) ?_) ?_)
          · obtain ⟨y, x, v, hy, hx, hv, he⟩ := get i hi
            have hx2 := hA.ins x (List.mem_of_getElem? hx)
            have q := specRow hp hm hy hx hv hx2.1 hx2.2 (hA.map v (List.mem_of_getElem? hv)) hl (hA1 i y hy)
            rw [he]
            constructor
            · intro hb w hw
              rw [hb] at q
              refine Ev.succ ?_
              simp only [spec_AsmRight.l2]
              refine Ev.ct (dt (by omega)) (Ev.bind q ?_)
              simp only [if_true, Sum.elim_inr]
              rw [wrap_nat (by omega)]
              exact hw
            · intro hb
              rw [hb] at q
              refine Ev.succ ?_
              simp only [spec_AsmRight.l2]
              refine Ev.ct (dt (by omega)) (Ev.bind q ?_)
              exact Ev.pure
          · refine Ev.succ ?_
            simp only [spec_AsmRight.l2]
            exact Ev.cf (df (by omega)) Ev.pure
          cases (List.range code.length).all b <;> exact Ev.pure
        · unfold impl_AsmRight
          refine Ev.bind hk (Ev.ct rfl (Ev.bind ?_ Ev.pure))
          unfold impl_prog_asmRight
          dsimp only
          refine Ev.bind (a := .inr ((f : Int), code, maps, ⟨p, hs⟩)) ?_ ?_
          · unfold impl_prog_asmRight.a1
            exact Ev.bind (Ev.const hfun) (Ev.cf rfl (Ev.bind (Ev.const hcd) (Ev.cf (by simp [c1]) (Ev.cf (by simp [c2]) Ev.pure))))
          simp only [Sum.elim_inr]
          refine Ev.bind (allLoop (fun k i => impl_prog_asmRight.l2 k (f : Int) code maps ⟨p, hs⟩ code (code.length : Int) i) code.length b () (fun i hi => ?_) ?_) ?_
          · obtain ⟨y, x, v, hy, hx, hv, he⟩ := get i hi
            have hx2 := hA.ins x (List.mem_of_getElem? hx)
            have q := implRow (N := (code.length : Int)) hp hm hh hy hx hv hx2.1 hx2.2 (hA.map v (List.mem_of_getElem? hv)) hl (hA1 i y hy) hcl
            rw [he]
            constructor
            · intro hb w hw
              rw [hb] at q
              refine Ev.succ ?_
              simp only [impl_prog_asmRight.l2]
              refine Ev.ct (dt (by omega)) (Ev.bind q ?_)
              simp only [if_true, Sum.elim_inr]
              rw [wrap_nat (by omega)]
              exact hw
            · intro hb
              rw [hb] at q
              refine Ev.succ ?_
              simp only [impl_prog_asmRight.l2]
              refine Ev.ct (dt (by omega)) (Ev.bind q ?_)
              exact Ev.pure
          · refine Ev.succ ?_
            simp only [impl_prog_asmRight.l2]
            exact Ev.cf (df (by omega)) Ev.pure
          cases (List.range code.length).all b <;> exact Ev.pure
        · dsimp only at hx hv
          have hi := (List.getElem?_eq_some_iff.1 hx).1
          obtain ⟨y, x', v', hy, hx', hv', he⟩ := get i hi
          rw [hx] at hx'; cases hx'
          rw [hv] at hv'; cases hv'
          rw [List.all_eq_true] at hb
          have := hb i (List.mem_range.2 hi)
          rw [he] at this
          exact row_good hp hl (hA1 i y hy) this
      · refine ⟨false, ?_, ?_, fun h => by cases h⟩
        · unfold spec_AsmRight
          refine Ev.bind (a := .inl false) ?_ (by simp only [Sum.elim_inl]; exact Ev.pure)
          unfold spec_AsmRight.a1
          exact Ev.bind s1 (Ev.cf rfl (Ev.idx hm (Ev.cf (by simp [c1]) (Ev.ct (by simp; omega) Ev.pure))))
        · unfold impl_AsmRight
          refine Ev.bind hk (Ev.ct rfl (Ev.bind ?_ Ev.pure))
          unfold impl_prog_asmRight
          refine Ev.bind (a := .inl false) ?_ (by simp only [Sum.elim_inl]; exact Ev.pure)
          unfold impl_prog_asmRight.a1
          exact Ev.bind (Ev.const hfun) (Ev.cf rfl (Ev.bind (Ev.const hcd) (Ev.cf (by simp [c1]) (Ev.ct (by simp; omega) Ev.pure))))
    · refine ⟨false, ?_, ?_, fun h => by cases h⟩
      · unfold spec_AsmRight
        refine Ev.bind (a := .inl false) ?_ (by simp only [Sum.elim_inl]; exact Ev.pure)
        unfold spec_AsmRight.a1
        exact Ev.bind s1 (Ev.cf rfl (Ev.idx hm (Ev.ct (by simp; omega) Ev.pure)))
      · unfold impl_AsmRight
        refine Ev.bind hk (Ev.ct rfl (Ev.bind ?_ Ev.pure))
        unfold impl_prog_asmRight
        refine Ev.bind (a := .inl false) ?_ (by simp only [Sum.elim_inl]; exact Ev.pure)
        unfold impl_prog_asmRight.a1
        exact Ev.bind (Ev.const hfun) (Ev.cf rfl (Ev.bind (Ev.const hcd) (Ev.ct (by simp; omega) Ev.pure)))
  · have e2 : ok2 = false := by cases ok2 with | false => rfl | true => exact absurd (s2.1 rfl) c
    subst e2
    refine ⟨false, ?_, ?_, fun h => by cases h⟩
    · unfold spec_AsmRight
      refine Ev.bind (a := .inl false) ?_ (by simp only [Sum.elim_inl]; exact Ev.pure)
      unfold spec_AsmRight.a1
      exact Ev.bind s1 (Ev.ct rfl Ev.pure)
    · unfold impl_AsmRight
      cases ok with
      | false => exact Ev.bind hk (Ev.cf rfl Ev.pure)
      | true =>
        have hp := hok.1 rfl
        refine Ev.bind hk (Ev.ct rfl (Ev.bind ?_ Ev.pure))
        unfold impl_prog_asmRight
        refine Ev.bind (a := .inl false) ?_ (by simp only [Sum.elim_inl]; exact Ev.pure)
        unfold impl_prog_asmRight.a1
        exact Ev.bind (Ev.const (hasFunc_eq p fn)) (Ev.ct (by rw [df (fun h => c ⟨hp, h⟩)]; rfl) Ev.pure)
def bi (l : List UInt8) : List Int := l.map fun c => (c.toNat : Int)
theorem bsL_str (l : List UInt8) : bsL (str l) = bi l := by unfold bsL str bi; rfl
theorem strL_bi (l : List UInt8) : strL (bi l) = str l := by
  unfold strL bytesL bi str
  rw [List.map_map]
  congr 2
  conv => rhs; rw [← List.map_id l]
  apply List.map_congr_left
  intro c _
  show UInt8.ofNat ((c.toNat : Int)).toNat = c
  rw [Int.toNat_natCast]
  exact UInt8.ofNat_toNat
theorem bi_append (a b : List UInt8) : bi a ++ bi b = bi (a ++ b) := by unfold bi; rw [List.map_append]
theorem bi_length (a : List UInt8) : (bi a).length = a.length := by unfold bi; rw [List.length_map]
def opT (a : Int) : List UInt8 := ((spec_OpName 0 a).getD ⟨#[]⟩).data.toList
theorem op_out {a : Int} (h : ¬ (0 ≤ a ∧ a ≤ 38)) (k : Nat) : spec_OpName k a = some (str []) ∧ impl_OpName a = some (str []) := by
  constructor
  · unfold spec_OpName spec_OpName.a1
    by_cases c : a ≥ 1
    · have c5 : ¬ a ≤ 5 := by omega
      have c10 : a ≥ 10 := by omega
      have c38 : ¬ a ≤ 38 := by omega
      simp [c, c5, c10, c38, str]
    · have c10 : ¬ a ≥ 10 := by omega
      simp [c, c10, str]
  · unfold impl_OpName impl_in
    by_cases c : a ≥ 0
    · have c38 : ¬ a ≤ 38 := by omega
      simp [c, c38, str]
    · simp [c, str]
theorem op_both (a : Int) : (∀ k, spec_OpName k a = some (str (opT a))) ∧ impl_OpName a = some (str (opT a)) ∧ (opT a).length ≤ 10 := by
  by_cases h : 0 ≤ a ∧ a ≤ 38
  · have hc := op_cases a
    have key : ∀ b : Int, a = b → (∀ k, spec_OpName k b = some (str (opT b))) → impl_OpName b = some (str (opT b)) → (opT b).length ≤ 10 → (∀ k, spec_OpName k a = some (str (opT a))) ∧ impl_OpName a = some (str (opT a)) ∧ (opT a).length ≤ 10 := by
      intro b e h1 h2 h3; subst e; exact ⟨h1, h2, h3⟩
    have hx : a = 0 ∨ a = 1 ∨ a = 2 ∨ a = 3 ∨ a = 4 ∨ a = 5 ∨ a = 6 ∨ a = 7 ∨ a = 8 ∨ a = 9 ∨ a = 10 ∨ a = 11 ∨ a = 12 ∨ a = 13 ∨ a = 14 ∨ a = 15 ∨ a = 16 ∨ a = 17 ∨ a = 18 ∨ a = 19 ∨ a = 20 ∨ a = 21 ∨ a = 22 ∨ a = 23 ∨ a = 24 ∨ a = 25 ∨ a = 26 ∨ a = 27 ∨ a = 28 ∨ a = 29 ∨ a = 30 ∨ a = 31 ∨ a = 32 ∨ a = 33 ∨ a = 34 ∨ a = 35 ∨ a = 36 ∨ a = 37 ∨ a = 38 := by omega
    rcases hx with e | e | e | e | e | e | e | e | e | e | e | e | e | e | e | e | e | e | e | e | e | e | e | e | e | e | e | e | e | e | e | e | e | e | e | e | e | e | e <;>
      exact key _ e (fun k => rfl) rfl (by decide)
  · obtain ⟨h1, h2⟩ := op_out h 0
    have e : opT a = [] := by unfold opT; rw [h1]; rfl
    rw [e]
    exact ⟨fun k => (op_out h k).1, h2, by simp⟩
structure TextOk (m : GFunc) : Prop where
  code : m.code.length ≤ 60
  args : L.i64 m.args
  locals : L.i64 m.locals
  ins : ∀ i ∈ m.code, L.i64 i.b
theorem itoa21 {n : Int} (h : L.i64 n) : (Lib.itoa n).length ≤ 21 := Lib.itoa_length_le n h.1 h.2
theorem valT_len {v : GI2} (h : L.i64 v.b) (hb : valB v = true) : (valT v).length ≤ 22 := by
  unfold valT
  by_cases c0 : v.a = 0
  · rw [if_pos c0]; simp
  rw [if_neg c0]
  by_cases c2 : v.a = 2
  · rw [if_pos c2]; have := itoa21 h; simp; omega
  rw [if_neg c2]
  have hk := valB_kind hb c0 c2
  by_cases c6 : v.b < 6
  · rw [if_pos c6]; have := itoa21 h; simp; omega
  · have h' : L.i64 (v.b - 6) := ⟨by omega, by omega⟩
    rw [if_neg c6]; have := itoa21 h'; simp; omega
theorem specValT {v : GI2} (h : L.i64 v.b) (hb : valB v = true) : Ev (fun k => spec_ValText k v) (str (valT v)) := by
  have := specValText h
  unfold valTT at this
  rw [if_pos hb] at this
  exact this
def valsT (l : List GI2) : List UInt8 := l.flatMap fun v => 32 :: valT v
theorem valsT_cons (v : GI2) (l : List GI2) : valsT (v :: l) = [32] ++ valT v ++ valsT l := rfl
structure ValsOk (l : List GI2) : Prop where
  len : l.length ≤ 16
  i64 : ∀ v ∈ l, L.i64 v.b
  ok : ∀ v ∈ l, valB v = true
theorem valsT_len : ∀ (l : List GI2), (∀ v ∈ l, L.i64 v.b) → (∀ v ∈ l, valB v = true) → (valsT l).length ≤ 23 * l.length
  | [], _, _ => by simp [valsT]
  | v :: l, h, h2 => by
    rw [valsT_cons]
    have := valsT_len l (fun w hw => h w (by simp [hw])) (fun w hw => h2 w (by simp [hw]))
    have := valT_len (h v (by simp)) (h2 v (by simp))
    simp
    omega
theorem ValsOk.tlen {l : List GI2} (h : ValsOk l) : (valsT l).length ≤ 368 := by
  have := valsT_len l h.i64 h.ok
  have := h.len
  omega
theorem drop_next {α : Type} {l : List α} {x : Nat} {m : α} (hm : l[x]? = some m) : l.drop x = m :: l.drop (x + 1) := by
  obtain ⟨h1, h2⟩ := List.getElem?_eq_some_iff.1 hm
  rw [List.drop_eq_getElem_cons h1, h2]
theorem s32 : (⟨#[32]⟩ : ByteArray) = str [32] := rfl
theorem s10 : (⟨#[10]⟩ : ByteArray) = str [10] := rfl
theorem s0 : (⟨#[]⟩ : ByteArray) = str [] := rfl
theorem specVals {l : List GI2} (h : ValsOk l) : Ev (fun k => spec_l19Vals k l) (str (valsT l)) := by
  have hl := h.len
  have key : ∀ (d x : Nat) (T : List UInt8), l.length - x = d → x ≤ l.length → T.length + 30 * d ≤ 100000 → Ev (fun k => spec_l19Vals.l1 k l (str T) (x : Int)) (str (T ++ valsT (l.drop x))) := by
    intro d
    induction d with
    | zero =>
      intro x T hd hx hT
      refine Ev.succ ?_
      simp only [spec_l19Vals.l1]
      refine Ev.cf (df (by omega)) ?_
      rw [List.drop_eq_nil_of_le (by omega)]
      simp only [valsT, List.flatMap_nil, List.append_nil]
      exact Ev.pure
    | succ d ih =>
      intro x T hd hx hT
      obtain ⟨m, hm⟩ := list_get (show x < l.length by omega)
      have hmem := List.mem_of_getElem? hm
      have hml := valT_len (h.i64 m hmem) (h.ok m hmem)
      rw [drop_next hm, valsT_cons]
      refine Ev.succ ?_
      simp only [spec_l19Vals.l1, s32, str_append, str_size]
      refine Ev.ct (dt (by omega)) (Ev.gd (by simp; omega) (Ev.idx hm (Ev.bind (specValT (h.i64 m hmem) (h.ok m hmem)) ?_)))
      simp only [str_append, str_size]
      refine Ev.gd (by simp; omega) ?_
      rw [wrap_nat (by omega)]
      have := ih (x + 1) (T ++ [32] ++ valT m) (by omega) (by omega) (by simp; omega)
      simpa using this
  unfold spec_l19Vals
  refine Ev.bind (key _ 0 [] rfl (by omega) (by simp; omega)) ?_
  rw [List.drop_zero, List.nil_append]
  exact Ev.pure
theorem implVals2 {l : List GI2} (h : ValsOk l) (a1 : Int) (a2 : List GAsmIns) (a3 : List (List GI2)) (a4 : List GMov) (a5 a6 : Int) (a7 : List GI2) (a8 : Int) (a10 : List GAsmIns) (a11 a12 : Int) (T : List UInt8) (hT : T.length ≤ 900000) :
    Ev (fun k => impl_AsmText.l2 k a1 a2 a3 a4 a5 a6 a7 a8 (str T) a10 a11 a12 l (l.length : Int) 0) (a1, a2, a3, a4, a5, a6, a7, a8, str (T ++ valsT l), a10, a11, a12) := by
  have hl := h.len
  have key : ∀ (d x : Nat) (T : List UInt8), l.length - x = d → x ≤ l.length → T.length + 30 * d ≤ 1000000 → Ev (fun k => impl_AsmText.l2 k a1 a2 a3 a4 a5 a6 a7 a8 (str T) a10 a11 a12 l (l.length : Int) (x : Int)) (a1, a2, a3, a4, a5, a6, a7, a8, str (T ++ valsT (l.drop x)), a10, a11, a12) := by
    intro d
    induction d with
    | zero =>
      intro x T hd hx hT
      refine Ev.succ ?_
      simp only [impl_AsmText.l2]
      refine Ev.cf (df (by omega)) ?_
      rw [List.drop_eq_nil_of_le (by omega)]
      simp only [valsT, List.flatMap_nil, List.append_nil]
      exact Ev.pure
    | succ d ih =>
      intro x T hd hx hT
      obtain ⟨m, hm⟩ := list_get (show x < l.length by omega)
      have hmem := List.mem_of_getElem? hm
      have hml := valT_len (h.i64 m hmem) (h.ok m hmem)
      rw [drop_next hm, valsT_cons]
      refine Ev.succ ?_
      simp only [impl_AsmText.l2]
      refine Ev.ct (dt (by omega)) (Ev.idx hm (Ev.bind (Ev.const (implValText' (h.i64 m hmem) (h.ok m hmem))) ?_))
      simp only [s32, str_append, str_size]
      refine Ev.gd (by simp; omega) (Ev.gd (by simp; omega) ?_)
      rw [wrap_nat (by omega)]
      have := ih (x + 1) (T ++ ([32] ++ valT m)) (by omega) (by omega) (by simp; omega)
      simpa using this
  have := key _ 0 T rfl (by omega) (by omega)
  rw [List.drop_zero] at this
  exact this
theorem implVals4 {l : List GI2} (h : ValsOk l) (a1 : Int) (a2 : List GAsmIns) (a3 : List (List GI2)) (a5 : List GAsmIns) (a6 a7 : Int) (T : List UInt8) (hT : T.length ≤ 900000) :
    Ev (fun k => impl_AsmText.l4 k a1 a2 a3 (str T) a5 a6 a7 l (l.length : Int) 0) (a1, a2, a3, str (T ++ valsT l), a5, a6, a7) := by
  have hl := h.len
  have key : ∀ (d x : Nat) (T : List UInt8), l.length - x = d → x ≤ l.length → T.length + 30 * d ≤ 1000000 → Ev (fun k => impl_AsmText.l4 k a1 a2 a3 (str T) a5 a6 a7 l (l.length : Int) (x : Int)) (a1, a2, a3, str (T ++ valsT (l.drop x)), a5, a6, a7) := by
    intro d
    induction d with
    | zero =>
      intro x T hd hx hT
      refine Ev.succ ?_
      simp only [impl_AsmText.l4]
      refine Ev.cf (df (by omega)) ?_
      rw [List.drop_eq_nil_of_le (by omega)]
      simp only [valsT, List.flatMap_nil, List.append_nil]
      exact Ev.pure
    | succ d ih =>
      intro x T hd hx hT
      obtain ⟨m, hm⟩ := list_get (show x < l.length by omega)
      have hmem := List.mem_of_getElem? hm
      have hml := valT_len (h.i64 m hmem) (h.ok m hmem)
      rw [drop_next hm, valsT_cons]
      refine Ev.succ ?_
      simp only [impl_AsmText.l4]
      refine Ev.ct (dt (by omega)) (Ev.idx hm (Ev.bind (Ev.const (implValText' (h.i64 m hmem) (h.ok m hmem))) ?_))
      simp only [s32, str_append, str_size]
      refine Ev.gd (by simp; omega) (Ev.gd (by simp; omega) ?_)
      rw [wrap_nat (by omega)]
      have := ih (x + 1) (T ++ ([32] ++ valT m)) (by omega) (by omega) (by simp; omega)
      simpa using this
  have := key _ 0 T rfl (by omega) (by omega)
  rw [List.drop_zero] at this
  exact this
def toT (n : Int) : List UInt8 := if n < 0 then [45] else valT ⟨1, n⟩
structure LocOk (n : Int) : Prop where
  lo : L.i64 n
  hi : n < 22
theorem valB_loc {n : Int} (h : LocOk n) (h0 : ¬ n < 0) : valB ⟨1, n⟩ = true := by
  have := h.hi
  unfold valB
  simp
  omega
theorem toT_len {n : Int} (h : LocOk n) : (toT n).length ≤ 22 := by
  unfold toT
  by_cases c : n < 0
  · rw [if_pos c]; simp
  · rw [if_neg c]; exact valT_len (v := ⟨1, n⟩) h.lo (valB_loc h c)
theorem specTo {n : Int} (h : LocOk n) : Ev (fun k => spec_l19Loc k n) (str (toT n)) := by
  unfold spec_l19Loc toT
  by_cases c : n < 0
  · rw [if_pos c]; exact Ev.ct (dt c) Ev.pure
  · rw [if_neg c]; exact Ev.cf (df c) (Ev.bind (specValT (v := ⟨1, n⟩) h.lo (valB_loc h c)) Ev.pure)
theorem implTo {n : Int} (h : LocOk n) : impl_toText n = some (str (toT n)) := by
  unfold impl_toText toT
  by_cases c : n < 0
  · rw [if_pos c, dt c]; rfl
  · rw [if_neg c, df c, cond_false]
    unfold impl_loc
    rw [Option.bind_some, implValText' (v := ⟨1, n⟩) h.lo (valB_loc h c)]
    rfl
def nameT (op : Int) : List UInt8 := if op = 0 then [110, 111, 112] else if op = 1 then [109, 111, 118, 101] else if op = 3 then [103, 117, 97, 114, 100] else opT op
theorem nameT_len (op : Int) : (nameT op).length ≤ 10 := by
  unfold nameT
  have := (op_both op).2.2
  split
  · simp
  · split
    · simp
    · split
      · simp
      · exact this
theorem specName (op : Int) : Ev (fun k => spec_l19Name k op) (str (nameT op)) := by
  unfold spec_l19Name nameT
  by_cases c0 : op = 0
  · rw [if_pos c0]; exact Ev.ct (by simp [c0]) Ev.pure
  rw [if_neg c0]
  refine Ev.cf (bf c0) ?_
  by_cases c1 : op = 1
  · rw [if_pos c1]; exact Ev.ct (by simp [c1]) Ev.pure
  rw [if_neg c1]
  refine Ev.cf (bf c1) ?_
  by_cases c3 : op = 3
  · rw [if_pos c3]; exact Ev.ct (by simp [c3]) Ev.pure
  rw [if_neg c3]
  refine Ev.cf (bf c3) (Ev.bind (Ev.of fun k => (op_both op).1 k) Ev.pure)
theorem implName {op : Int} (h : op = 0 ∨ op = 1 ∨ op = 3 ∨ 10 ≤ op) : impl_asmName op = some (str (nameT op)) := by
  unfold impl_asmName nameT
  by_cases c0 : op = 0
  · rw [if_pos c0, show (op == 0) = true by simp [c0]]; rfl
  rw [if_neg c0, bf c0, cond_false]
  by_cases c1 : op = 1
  · rw [if_pos c1, show (op == 1) = true by simp [c1]]; rfl
  rw [if_neg c1, bf c1, cond_false]
  by_cases c3 : op = 3
  · rw [if_pos c3, show (op == 3) = true by simp [c3]]; rfl
  rw [if_neg c3, bf c3, cond_false, df (show ¬ op < 10 by omega), cond_false, (op_both op).2.1]
  rfl
def preT (m : GMov) : List UInt8 := [112, 114, 101, 32] ++ toT m.to ++ [32] ++ valT m.from0 ++ [10]
def presT (l : List GMov) : List UInt8 := l.flatMap preT
theorem presT_cons (m : GMov) (l : List GMov) : presT (m :: l) = preT m ++ presT l := rfl
structure PreOk (m : GMov) : Prop where
  to : LocOk m.to
  i64 : L.i64 m.from0.b
  ok : valB m.from0 = true
theorem preT_len {m : GMov} (h : PreOk m) : (preT m).length ≤ 50 := by
  unfold preT
  have := toT_len h.to
  have := valT_len h.i64 h.ok
  simp
  omega
theorem presT_len : ∀ (l : List GMov), (∀ m ∈ l, PreOk m) → (presT l).length ≤ 50 * l.length
  | [], _ => by simp [presT]
  | m :: l, h => by
    rw [presT_cons, List.length_append, List.length_cons]
    have := presT_len l fun w hw => h w (by simp [hw])
    have := preT_len (h m (by simp))
    omega
theorem sPre : (⟨#[112, 114, 101, 32]⟩ : ByteArray) = str [112, 114, 101, 32] := rfl
theorem specPres {l : List GMov} (hl : l.length ≤ 16) (h : ∀ m ∈ l, PreOk m) (a1 : Int) (a2 : List GAsmIns) (a3 : List (List GI2)) (a5 a6 : Int) (a7 : List GI2) (a8 a10 : Int) (T : List UInt8) (hT : T.length ≤ 900000) :
    Ev (fun k => spec_AsmText.l2 k a1 a2 a3 l a5 a6 a7 a8 (bi T) a10 0) (a1, a2, a3, l, a5, a6, a7, a8, bi (T ++ presT l), a10) := by
  have key : ∀ (d x : Nat) (T : List UInt8), l.length - x = d → x ≤ l.length → T.length + 50 * d ≤ 1000000 → Ev (fun k => spec_AsmText.l2 k a1 a2 a3 l a5 a6 a7 a8 (bi T) a10 (x : Int)) (a1, a2, a3, l, a5, a6, a7, a8, bi (T ++ presT (l.drop x)), a10) := by
    intro d
    induction d with
    | zero =>
      intro x T hd hx hT
      refine Ev.succ ?_
      simp only [spec_AsmText.l2]
      refine Ev.cf (df (by omega)) ?_
      rw [List.drop_eq_nil_of_le (by omega)]
      simp only [presT, List.flatMap_nil, List.append_nil]
      exact Ev.pure
    | succ d ih =>
      intro x T hd hx hT
      obtain ⟨m, hm⟩ := list_get (show x < l.length by omega)
      have ho := h m (List.mem_of_getElem? hm)
      have h1 := toT_len ho.to
      have h2 := valT_len ho.i64 ho.ok
      have h3 := preT_len ho
      rw [drop_next hm, presT_cons]
      refine Ev.succ ?_
      simp only [spec_AsmText.l2]
      refine Ev.ct (dt (by omega)) (Ev.idx hm (Ev.bind (specTo ho.to) ?_))
      simp only [sPre, s32, s10, str_append, str_size]
      refine Ev.gd (by simp; omega) (Ev.gd (by simp; omega) (Ev.bind (specValT ho.i64 ho.ok) ?_))
      simp only [str_append, str_size, bsL_str, bi_append, bi_length]
      refine Ev.gd (by simp; omega) (Ev.gd (by simp; omega) (Ev.gd (by simp; omega) ?_))
      rw [wrap_nat (by omega)]
      have := ih (x + 1) (T ++ preT m) (by omega) (by omega) (by rw [List.length_append]; omega)
      rw [List.append_assoc] at this
      exact this
  have := key _ 0 T rfl (by omega) (by omega)
  rw [List.drop_zero] at this
  exact this
theorem implPres {l : List GMov} (hl : l.length ≤ 16) (h : ∀ m ∈ l, PreOk m) (a1 : Int) (a2 : List GAsmIns) (a3 : List (List GI2)) (a4 : List GMov) (a5 a6 : Int) (a7 : List GI2) (a8 : Int) (a10 : List GAsmIns) (a11 a12 : Int) (T : List UInt8) (hT : T.length ≤ 900000) :
    Ev (fun k => impl_AsmText.l3 k a1 a2 a3 a4 a5 a6 a7 a8 (str T) a10 a11 a12 l (l.length : Int) 0) (a1, a2, a3, a4, a5, a6, a7, a8, str (T ++ presT l), a10, a11, a12) := by
  have key : ∀ (d x : Nat) (T : List UInt8), l.length - x = d → x ≤ l.length → T.length + 50 * d ≤ 1000000 → Ev (fun k => impl_AsmText.l3 k a1 a2 a3 a4 a5 a6 a7 a8 (str T) a10 a11 a12 l (l.length : Int) (x : Int)) (a1, a2, a3, a4, a5, a6, a7, a8, str (T ++ presT (l.drop x)), a10, a11, a12) := by
    intro d
    induction d with
    | zero =>
      intro x T hd hx hT
      refine Ev.succ ?_
      simp only [impl_AsmText.l3]
      refine Ev.cf (df (by omega)) ?_
      rw [List.drop_eq_nil_of_le (by omega)]
      simp only [presT, List.flatMap_nil, List.append_nil]
      exact Ev.pure
    | succ d ih =>
      intro x T hd hx hT
      obtain ⟨m, hm⟩ := list_get (show x < l.length by omega)
      have ho := h m (List.mem_of_getElem? hm)
      have h1 := toT_len ho.to
      have h2 := valT_len ho.i64 ho.ok
      have h3 := preT_len ho
      rw [drop_next hm, presT_cons]
      refine Ev.succ ?_
      simp only [impl_AsmText.l3]
      refine Ev.ct (dt (by omega)) (Ev.idx hm (Ev.bind (Ev.const (implTo ho.to)) ?_))
      simp only [sPre, s32, s10, str_append, str_size]
      refine Ev.gd (by simp; omega) (Ev.gd (by simp; omega) (Ev.bind (Ev.const (implValText' ho.i64 ho.ok)) ?_))
      simp only [str_append, str_size]
      refine Ev.gd (by simp; omega) (Ev.gd (by simp; omega) (Ev.gd (by simp; omega) ?_))
      rw [wrap_nat (by omega)]
      have := ih (x + 1) (T ++ preT m) (by omega) (by omega) (by rw [List.length_append]; omega)
      rw [List.append_assoc] at this
      exact this
  have := key _ 0 T rfl (by omega) (by omega)
  rw [List.drop_zero] at this
  exact this
def headA (v : List GI2) : List UInt8 := [97, 116] ++ valsT v ++ [10]
def tailA (x : GAsmIns) : List UInt8 := nameT x.op ++ [32] ++ toT x.to ++ [32] ++ Lib.itoa x.t
def rowT (x : GAsmIns) (v : List GI2) : List UInt8 := headA v ++ (presT x.pre ++ (tailA x ++ (valsT x.l ++ [10])))
structure RowOk (x : GAsmIns) (v : List GI2) : Prop where
  v : ValsOk v
  l : ValsOk x.l
  pre : x.pre.length ≤ 16
  pres : ∀ m ∈ x.pre, PreOk m
  to : LocOk x.to
  t : L.i64 x.t
  op : x.op = 0 ∨ x.op = 1 ∨ x.op = 3 ∨ 10 ≤ x.op
def rowsT : List GAsmIns → List (List GI2) → List UInt8
  | x :: xs, v :: vs => rowT x v ++ rowsT xs vs
  | _, _ => []
theorem row_len {x : GAsmIns} {v : List GI2} (h : RowOk x v) : (headA v).length ≤ 400 ∧ (presT x.pre).length ≤ 800 ∧ (tailA x).length ≤ 100 ∧ (valsT x.l).length ≤ 368 ∧ (rowT x v).length ≤ 1700 := by
  have h1 := h.v.tlen
  have h2 := h.l.tlen
  have h3 := presT_len x.pre h.pres
  have h4 := h.pre
  have h5 := nameT_len x.op
  have h6 := toT_len h.to
  have h7 := itoa21 h.t
  have e1 : (headA v).length ≤ 400 := by unfold headA; simp; omega
  have e3 : (tailA x).length ≤ 100 := by unfold tailA; simp; omega
  refine ⟨e1, by omega, e3, h2, ?_⟩
  unfold rowT
  simp
  omega
theorem sAt : (⟨#[97, 116]⟩ : ByteArray) = str [97, 116] := rfl
theorem sCode : (⟨#[99, 111, 100, 101, 32]⟩ : ByteArray) = str [99, 111, 100, 101, 32] := rfl
theorem specRows (f : Int) (code : List GAsmIns) (maps : List (List GI2)) (hc : code.length ≤ 60) (hmm : maps.length = code.length) (h : ∀ (i : Nat) x v, code[i]? = some x → maps[i]? = some v → RowOk x v) : ∀ (d i : Nat) (T : List UInt8), code.length - i = d → i ≤ code.length → T.length + 1700 * d ≤ 800000 →
    Ev (fun k => spec_AsmText.l1 k f code maps (bi T) (i : Int)) (bi (T ++ rowsT (code.drop i) (maps.drop i))) := by
  intro d
  induction d with
  | zero =>
    intro i T hd hi hT
    refine Ev.succ ?_
    simp only [spec_AsmText.l1]
    refine Ev.cf (df (by omega)) ?_
    rw [List.drop_eq_nil_of_le (show code.length ≤ i by omega)]
    simp only [rowsT, List.append_nil]
    exact Ev.pure
  | succ d ih =>
    intro i T hd hi hT
    obtain ⟨x, hx⟩ := list_get (show i < code.length by omega)
    obtain ⟨v, hv⟩ := list_get (show i < maps.length by omega)
    have ho := h i x v hx hv
    obtain ⟨l1, l2, l3, l4, l5⟩ := row_len ho
    have l6 := nameT_len x.op
    have l7 := toT_len ho.to
    have l8 := itoa21 ho.t
    rw [drop_next hx, drop_next hv]
    refine Ev.succ ?_
    simp only [spec_AsmText.l1]
    refine Ev.ct (dt (by omega)) (Ev.idx hx (Ev.idx hv (Ev.bind (specVals ho.v) ?_)))
    have h1 := ho.v.tlen
    simp only [sAt, s32, s10, str_append, str_size, bsL_str, bi_append, bi_length]
    refine Ev.gd (by simp; omega) (Ev.gd (by simp; omega) (Ev.gd (by simp; omega) ?_))
    rw [show [97, 116] ++ valsT v ++ [10] = headA v from rfl]
    refine Ev.bind (specPres ho.pre ho.pres f code maps x.op x.to x.l x.t (i : Int) (T ++ headA v) (by rw [List.length_append]; omega)) ?_
    dsimp only
    refine Ev.bind (specName x.op) ?_
    simp only [s32, s10, str_append, str_size]
    refine Ev.gd (by simp; omega) (Ev.bind (specTo ho.to) ?_)
    simp only [str_append, str_size]
    refine Ev.gd (by simp; omega) (Ev.gd (by simp; omega) (Ev.bind (dec_ev ho.t.1 ho.t.2) ?_))
    simp only [str_append, str_size]
    refine Ev.gd (by simp; omega) (Ev.bind (specVals ho.l) ?_)
    simp only [str_append, str_size, bsL_str, bi_append, bi_length]
    refine Ev.gd (by simp; omega) (Ev.gd (by simp; omega) (Ev.gd (by simp; omega) ?_))
    rw [wrap_nat (by omega)]
    have := ih (i + 1) (T ++ rowT x v) (by omega) (by omega) (by rw [List.length_append]; omega)
    rw [List.append_assoc] at this
    have e : T ++ headA v ++ presT x.pre ++ (nameT x.op ++ [32] ++ toT x.to ++ [32] ++ Lib.itoa x.t ++ valsT x.l ++ [10]) = T ++ rowT x v := by
      unfold rowT tailA; simp
    rw [e]
    exact this
theorem implRows (f : Int) (code : List GAsmIns) (maps : List (List GI2)) (hc : code.length ≤ 60) (hmm : maps.length = code.length) (h : ∀ (i : Nat) x v, code[i]? = some x → maps[i]? = some v → RowOk x v) : ∀ (d i : Nat) (T : List UInt8), code.length - i = d → i ≤ code.length → T.length + 1700 * d ≤ 800000 →
    Ev (fun k => impl_AsmText.l1 k f code maps (str T) code (code.length : Int) (i : Int)) (str (T ++ rowsT (code.drop i) (maps.drop i))) := by
  intro d
  induction d with
  | zero =>
    intro i T hd hi hT
    refine Ev.succ ?_
    simp only [impl_AsmText.l1]
    refine Ev.cf (df (by omega)) ?_
    rw [List.drop_eq_nil_of_le (show code.length ≤ i by omega)]
    simp only [rowsT, List.append_nil]
    exact Ev.pure
  | succ d ih =>
    intro i T hd hi hT
    obtain ⟨x, hx⟩ := list_get (show i < code.length by omega)
    obtain ⟨v, hv⟩ := list_get (show i < maps.length by omega)
    have ho := h i x v hx hv
    obtain ⟨l1, l2, l3, l4, l5⟩ := row_len ho
    have l6 := nameT_len x.op
    have l7 := toT_len ho.to
    have l8 := itoa21 ho.t
    have h1 := ho.v.tlen
    rw [drop_next hx, drop_next hv]
    refine Ev.succ ?_
    simp only [impl_AsmText.l1]
    refine Ev.ct (dt (by omega)) (Ev.idx hx ?_)
    simp only [sAt, s32, s10, str_append, str_size]
    refine Ev.gd (by simp; omega) (Ev.idx hv (Ev.bind (implVals2 ho.v f code maps x.pre x.op x.to x.l x.t code (code.length : Int) (i : Int) (T ++ [97, 116]) (by simp; omega)) ?_))
    dsimp only
    simp only [str_append, str_size]
    refine Ev.gd (by simp; omega) ?_
    have e0 : T ++ [97, 116] ++ valsT v ++ [10] = T ++ headA v := by unfold headA; simp
    rw [e0]
    refine Ev.bind (implPres ho.pre ho.pres f code maps x.pre x.op x.to x.l x.t code (code.length : Int) (i : Int) (T ++ headA v) (by rw [List.length_append]; omega)) ?_
    dsimp only
    refine Ev.bind (Ev.const (implName ho.op)) ?_
    simp only [str_append, str_size]
    refine Ev.gd (by simp; omega) (Ev.bind (Ev.const (implTo ho.to)) ?_)
    simp only [str_append, str_size]
    refine Ev.gd (by simp; omega) (Ev.gd (by simp; omega) (Ev.bind (Ev.const (digits_eq ho.t.1 ho.t.2)) ?_))
    simp only [str_append, str_size]
    refine Ev.gd (by simp; omega) (Ev.gd (by simp; omega) ?_)
    rw [show nameT x.op ++ [32] ++ toT x.to ++ [32] ++ Lib.itoa x.t = tailA x from rfl]
    refine Ev.bind (implVals4 ho.l f code maps code (code.length : Int) (i : Int) (T ++ headA v ++ presT x.pre ++ tailA x) (by simp; omega)) ?_
    dsimp only
    simp only [str_append, str_size]
    refine Ev.gd (by simp; omega) ?_
    rw [wrap_nat (by omega)]
    have := ih (i + 1) (T ++ rowT x v) (by omega) (by omega) (by rw [List.length_append]; omega)
    rw [List.append_assoc] at this
    have e : T ++ headA v ++ presT x.pre ++ tailA x ++ valsT x.l ++ [10] = T ++ rowT x v := by
      unfold rowT; simp
    rw [e]
    exact this
theorem loc_ok {n : Int} (h : locB n = true) : LocOk n := by
  have := of_decide_eq_true h
  exact ⟨⟨by omega, by omega⟩, this.2⟩
theorem row_ok {x : GAsmIns} {v : List GI2} (h : RowGood x v) (hi : BigI x) (hv : ∀ y ∈ v, L.i64 y.b) : RowOk x v := by
  have hto : LocOk x.to := ⟨⟨by have := h.to; omega, by have := h.to; omega⟩, h.to.2⟩
  refine ⟨⟨h.wl, hv, h.vs⟩, ⟨h.l, hi.lb, h.ls⟩, h.pre, fun m hm => ?_, hto, hi.t, h.op⟩
  have := h.pres m hm
  unfold preB someB at this
  simp only [Bool.and_eq_true] at this
  exact ⟨loc_ok this.1, hi.pb m hm, this.2.1⟩
theorem asmtext_both {p : GProgram} {a : GAsm} (ha : Args64 p) (hn : p.funcs.length ≤ 1048576) (hA : SmallA a) (hB : BigA a) : ∃ T, Ev (fun k => spec_AsmText k p a) (str T) ∧ Ev (fun k => impl_AsmText k p a) (str T) := by
  obtain ⟨b, q1, q2, q3⟩ := asm_both ha hn hA
  obtain ⟨f, code, maps⟩ := a
  cases b with
  | false =>
    refine ⟨[], ?_, ?_⟩
    · unfold spec_AsmText
      exact Ev.bind q1 (Ev.ct rfl (Ev.const rfl))
    · unfold impl_AsmText
      exact Ev.bind q2 (Ev.ct rfl (Ev.const rfl))
  | true =>
    have h := q3 rfl
    have hr : ∀ (i : Nat) x v, code[i]? = some x → maps[i]? = some v → RowOk x v := fun i x v hx hv => row_ok (h.rows i x v hx hv) (hB.ins x (List.mem_of_getElem? hx)) (hB.map v (List.mem_of_getElem? hv)).2
    have hf := hB.func
    have hfl := itoa21 hf
    have hc := h.code
    dsimp only at hf hfl hc
    refine ⟨[99, 111, 100, 101, 32] ++ Lib.itoa f ++ [10] ++ rowsT code maps, ?_, ?_⟩
    · unfold spec_AsmText
      dsimp only
      refine Ev.bind q1 (Ev.cf rfl (Ev.bind (dec_ev hf.1 hf.2) ?_))
      simp only [sCode, s10, str_append, str_size, bsL_str]
      refine Ev.gd (by simp; omega) (Ev.gd (by simp; omega) (Ev.bind (specRows f code maps h.code h.maps hr _ 0 _ rfl (by omega) (by simp; omega)) (Ev.const ?_)))
      rw [List.drop_zero, List.drop_zero, strL_bi]
    · unfold impl_AsmText
      dsimp only
      refine Ev.bind q2 (Ev.cf rfl (Ev.bind (Ev.const (digits_eq hf.1 hf.2)) ?_))
      simp only [sCode, s10, str_append, str_size]
      refine Ev.gd (by simp; omega) (Ev.gd (by simp; omega) (Ev.bind (implRows f code maps h.code h.maps hr _ 0 _ rfl (by omega) (by simp; omega)) (Ev.const ?_)))
      rw [List.drop_zero, List.drop_zero]
theorem szProgram_ev2 (p : GProgram) (hn : p.funcs.length ≤ 9223372036854775807) (hc : ∀ f ∈ p.funcs, f.code.length ≤ 9223372036854775807) :
    ∃ t, Ev (fun k => laws_szProgram k p 1048576) t ∧ (t < 0 ∨ (0 ≤ t ∧ t ≤ 1048576 ∧ Small p)) := by
  by_cases c : (1048576 : Int) < p.funcs.length
  · refine ⟨-1, ?_, .inl (by omega)⟩
    refine Ev.bind (a := -1) ?_ (Ev.ct (dt (by omega)) Ev.pure)
    unfold laws_szFuncS
    rw [wrap_id (by omega) (by omega)]
    exact Ev.ct (dt (by omega)) Ev.pure
  · obtain ⟨r, hr, h⟩ := szFuncS_l p.funcs (by omega) hc _ 0 (1048576 - p.funcs.length) rfl (by omega) (by omega) (by omega)
    have key : ∀ x, (r = .inl x ∨ r = .inr x) → Ev (fun k => laws_szFuncS k p.funcs 1048576) x := by
      intro x hx
      unfold laws_szFuncS
      rw [wrap_id (by omega) (by omega)]
      refine Ev.cf (df (by omega)) (Ev.bind hr ?_)
      rcases hx with rfl | rfl <;> exact Ev.pure
    rcases h with ⟨x, rfl, rfl⟩ | ⟨x, rfl, h1, h2, h3⟩
    · exact ⟨-1, Ev.bind (key _ (.inl rfl)) (Ev.ct (dt (by omega)) Ev.pure), .inl (by omega)⟩
    · refine ⟨x, Ev.bind (key _ (.inr rfl)) (Ev.cf (df (by omega)) Ev.pure), .inr ⟨h1, by omega, ⟨by omega, fun f hf => ?_⟩⟩⟩
      obtain ⟨j, hj⟩ := List.getElem?_of_mem hf
      have := h3 j f (by omega) hj
      omega
theorem law_asmtext (p : GProgram) (a : GAsm) (ha : Args64 p) (h1 : p.funcs.length ≤ 9223372036854775807) (h2 : ∀ m ∈ p.funcs, m.code.length ≤ 9223372036854775807) (hA : BigA a) : Ev (fun k => laws_FnExactAsmText k p a) true := by
  unfold laws_FnExactAsmText
  obtain ⟨t, ht, hcase⟩ := szProgram_ev2 p h1 h2
  rcases hcase with h | ⟨h, h', hS⟩
  · exact Ev.bind ht (Ev.ct (dt h) Ev.pure)
  obtain ⟨s, hs, hc2⟩ := szAsm_ev hA t h h'
  rcases hc2 with hneg | hSA
  · exact Ev.bind ht (Ev.cf (df (by omega)) (Ev.bind hs (Ev.ct (dt hneg) Ev.pure)))
  by_cases cs : s < 0
  · exact Ev.bind ht (Ev.cf (df (by omega)) (Ev.bind hs (Ev.ct (dt cs) Ev.pure)))
  obtain ⟨T, q1, q2⟩ := asmtext_both ha hS.funcs hSA hA
  have tp := toProgram_ev hS
  have ta := toAsm_ev hSA
  exact Ev.bind ht (Ev.cf (df (by omega)) (Ev.bind hs (Ev.cf (df cs) (Ev.bind tp (Ev.bind ta (Ev.bind q1 (Ev.bind tp (Ev.bind ta (Ev.bind q2 (Ev.cf (by simp) (Ev.bind tp (Ev.bind (eqProgram_ev hS) (Ev.cf rfl (Ev.bind ta (Ev.bind (eqAsm_ev hSA) (Ev.cf rfl Ev.pure))))))))))))))))
end Go.Proofs.YtfdgjiifeijjfaaGreatDoor