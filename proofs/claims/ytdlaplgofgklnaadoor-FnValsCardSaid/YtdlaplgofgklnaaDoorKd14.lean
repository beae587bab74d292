/- WHAT IS PROVED: an abstract walker over the model, what some functions of the program answer, and laws of these answers. Conditions: none. -/
import Derived.Test.YtdlaplgofgklnaaDoorKd12
namespace Go.Proofs.YtdlaplgofgklnaaDoor
open Go.Proofs Go.Proofs.YtdlaplgofgklnaaDoor.L
set_option linter.unusedVariables false
set_option linter.unusedSimpArgs false
set_option maxRecDepth 100000
def Ok {α : Type} (f : Nat → Option α) (P : α → Prop) : Prop := ∃ r, Ev f r ∧ P r
section
variable {α β γ : Type} {P : β → Prop} {Q : α → Prop}
theorem Ok.pure {v : β} (h : P v) : Ok (fun _ => some v) P := ⟨v, Ev.pure, h⟩
theorem Ok.mono {f : Nat → Option β} {R : β → Prop} (h : Ok f R) (hm : ∀ r, R r → P r) : Ok f P := by
  obtain ⟨r, h1, h2⟩ := h; exact ⟨r, h1, hm r h2⟩
theorem Ok.bind {f : Nat → Option α} {g : Nat → α → Option β} (h : Ok f Q) (h2 : ∀ a, Q a → Ok (fun k => g k a) P) : Ok (fun k => (f k).bind (g k)) P := by
  obtain ⟨a, e, q⟩ := h
  obtain ⟨b, e2, p⟩ := h2 a q
  exact ⟨b, Ev.bind e e2, p⟩
theorem Ok.cond {b : Bool} {f g : Nat → Option β} (h1 : b = true → Ok f P) (h2 : b = false → Ok g P) : Ok (fun k => cond b (f k) (g k)) P := by
  cases b with
  | true => exact h1 rfl
  | false => exact h2 rfl
theorem Ok.gd {p : Prop} [Decidable p] {f : Nat → Option β} (hp : p) (h : Ok f P) : Ok (fun k => L.gd p (f k)) P := by
  obtain ⟨r, e, q⟩ := h; exact ⟨r, Ev.gd hp e, q⟩
theorem Ok.idx {l : List α} {i : Int} {g : Nat → α → Option β} (h0 : 0 ≤ i) (h1 : i < (l.length : Int)) (h : ∀ m, l[i.toNat]? = some m → Ok (fun k => g k m) P) : Ok (fun k => (L.idx l i).bind (g k)) P := by
  obtain ⟨m, hm⟩ := list_get (show i.toNat < l.length by omega)
  obtain ⟨r, e, q⟩ := h m hm
  refine ⟨r, Ev.bind (a := m) (Ev.const ?_) e, q⟩
  rw [idx_of h0, hm]
theorem Ok.succ {f : Nat → Option β} (h : Ok (fun k => f (k + 1)) P) : Ok f P := by
  obtain ⟨r, e, q⟩ := h; exact ⟨r, Ev.succ e, q⟩
theorem Ok.shift {f : Nat → Option β} (h : Ok f P) : Ok (fun k => f (k + 1)) P := by
  obtain ⟨r, ⟨k0, e⟩, q⟩ := h; exact ⟨r, ⟨k0, fun k hk => e (k + 1) (by omega)⟩, q⟩
theorem Ok.const {x : Option β} {v : β} (h : x = some v) (hp : P v) : Ok (fun _ => x) P := ⟨v, Ev.const h, hp⟩
end
theorem u64_eq (x : Int) : IntKind.u64.wrap x = x % 18446744073709551616 := by
  have : (2 : Int) ^ 64 = 18446744073709551616 := by decide
  simp [IntKind.wrap, IntKind.bits, IntKind.signed, this]
theorem u64_pos (x : Int) : 0 ≤ IntKind.u64.wrap x := by rw [u64_eq]; omega
theorem u64_id {x : Int} (h0 : 0 ≤ x) (h1 : x < 18446744073709551616) : IntKind.u64.wrap x = x := by rw [u64_eq]; omega
structure SOk (s : Gl01Src) : Prop where
  at0 : 0 ≤ s.at0 ∧ s.at0 ≤ (s.b.length : Int)
  len : s.b.length ≤ 1048576
  size : 0 ≤ s.size ∧ s.size ≤ 12
theorem n_ok {s : Gl01Src} (hs : SOk s) (most : Int) (hm : most < 4611686018427387904) :
    Ok (fun k => spec_l01Src_n k s most) (fun r => SOk r.2 ∧ 0 ≤ r.1 ∧ (most ≤ 1 ∧ r.1 = 0 ∨ 1 < most ∧ r.1 < most)) := by
  unfold spec_l01Src_n
  refine Ok.cond (fun h => ?_) (fun h => ?_)
  · simp only [decide_eq_true_eq] at h
    exact Ok.pure ⟨hs, by simp, .inl ⟨h, rfl⟩⟩
  · simp only [decide_eq_false_iff_not] at h
    refine Ok.bind (Q := fun o => o.2.1 = most ∧ SOk o.1) ?_ ?_
    · unfold spec_l01Src_n.a1
      refine Ok.cond (fun h => ?_) (fun h => Ok.pure ⟨rfl, hs⟩)
      simp only [decide_eq_true_eq] at h
      have h0 := hs.at0
      have hl := hs.len
      refine Ok.idx h0.1 h (fun m hm => Ok.pure ⟨rfl, ?_, hl, hs.size⟩)
      show 0 ≤ IntKind.i64.wrap (s.at0 + 1) ∧ IntKind.i64.wrap (s.at0 + 1) ≤ (s.b.length : Int)
      rw [wrap_id (by omega) (by omega)]
      omega
    · rintro ⟨s', m, v⟩ ⟨h1, h2⟩
      have h1 : m = most := h1
      subst h1
      have e : IntKind.u64.wrap m = m := u64_id (by omega) (by omega)
      simp only [e]
      refine Ok.gd (by omega) (Ok.pure ⟨⟨h2.at0, h2.len, h2.size⟩, ?_⟩)
      generalize hz : IntKind.u64.wrap _ = z
      have hz0 : 0 ≤ z := hz ▸ u64_pos _
      have h3 : 0 ≤ z.tmod m := Int.tmod_nonneg m hz0
      have h4 : z.tmod m < m := Int.tmod_lt_of_pos z (by omega)
      simp only []
      rw [wrap_id (by omega) (by omega)]
      exact ⟨h3, .inr ⟨by omega, h4⟩⟩
theorem one_ok {s : Gl01Src} (hs : SOk s) (of_ : Int) (hm : of_ < 4611686018427387904) : Ok (fun k => spec_l01Src_one k s of_) (fun r => SOk r.2) := by
  unfold spec_l01Src_one
  exact Ok.bind (n_ok hs of_ hm) fun r h => Ok.pure h.1
theorem edge_ok {s : Gl01Src} (hs : SOk s) : Ok (fun k => spec_l01Src_edge k s) (fun r => SOk r.2 ∧ L.i64 r.1) := by
  unfold spec_l01Src_edge
  refine Ok.bind (n_ok hs 14 (by omega)) fun r h => Ok.idx h.2.1 (by simp; omega) fun m hm => Ok.pure ⟨h.1, ?_⟩
  have h0 := h.2.1
  have h1 : r.1.toNat < 14 := by omega
  generalize r.1.toNat = q at hm h1
  have : q = 0 ∨ q = 1 ∨ q = 2 ∨ q = 3 ∨ q = 4 ∨ q = 5 ∨ q = 6 ∨ q = 7 ∨ q = 8 ∨ q = 9 ∨ q = 10 ∨ q = 11 ∨ q = 12 ∨ q = 13 := by omega
  rcases this with rfl | rfl | rfl | rfl | rfl | rfl | rfl | rfl | rfl | rfl | rfl | rfl | rfl | rfl <;> (simp at hm; subst hm; simp [L.i64])
theorem source_l (code : List Int) (hc : code.length ≤ 1048576) : ∀ (d i : Nat) (s : Gl01Src), 64 - i = d → i ≤ 64 → i ≤ code.length → s.b = code → s.at0 = 0 → s.size = 0 →
    Ok (fun k => spec_l01Source.l1 k s code (i : Int)) (fun r => r.1.b = code ∧ r.1.at0 = 0 ∧ r.2 = code)
  | d, i, s, hd, hi, hi2, hb, h0, hz => by
    refine Ok.succ ?_
    simp only [spec_l01Source.l1]
    refine Ok.bind (Q := fun o => (o = .inl (s, code, (i : Int)) ∧ i < code.length ∧ i < 64) ∨ o = .inr (s, code)) ?_ ?_
    · unfold spec_l01Source.a2
      refine Ok.cond (fun h => Ok.cond (fun h2 => Ok.pure (.inl ⟨rfl, ?_, ?_⟩)) fun _ => Ok.pure (.inr rfl)) fun _ => Ok.pure (.inr rfl)
      · simp at h; exact h
      · simp at h2; omega
    · rintro o (⟨rfl, h1, h2⟩ | rfl)
      · dsimp only [Sum.elim_inl]
        refine Ok.idx (by omega) (by omega) fun m hm => ?_
        rw [wrap_nat (by omega)]
        match d, hd with
        | 0, hd => omega
        | d + 1, hd => exact source_l code hc d (i + 1) _ (by omega) (by omega) (by omega) hb h0 hz
      · exact Ok.pure ⟨hb, h0, rfl⟩
theorem source_ok (code : List Int) (hc : code.length ≤ 1048576) : Ok (fun k => spec_l01Source k code) SOk := by
  unfold spec_l01Source
  refine Ok.bind (source_l code hc _ 0 ⟨code, 0, 88172645463325252, 0⟩ rfl (by omega) (by omega) rfl rfl rfl) ?_
  rintro ⟨s, l⟩ ⟨e1, e2, e3⟩
  have e1 : s.b = code := e1
  have e2 : s.at0 = 0 := e2
  have e3 : l = code := e3
  subst e3
  have hq : iquo .i64 (l.length : Int) 20 = (l.length : Int) / 20 := by
    unfold iquo
    rw [Int.tdiv_eq_ediv_of_nonneg (by omega), wrap_id (by omega) (by omega)]
  dsimp only
  rw [hq]
  refine Ok.cond (fun h => Ok.pure ⟨by dsimp only; rw [e2, e1]; omega, by dsimp only; rw [e1]; exact hc, by dsimp only; omega⟩) fun h => Ok.pure ⟨by dsimp only; rw [e2, e1]; omega, by dsimp only; rw [e1]; exact hc, ?_⟩
  simp at h
  dsimp only
  omega
end Go.Proofs.YtdlaplgofgklnaaDoor
namespace Go.Proofs.YtdlaplgofgklnaaDoor
open Go.Proofs Go.Proofs.YtdlaplgofgklnaaDoor.L
set_option linter.unusedVariables false
set_option linter.unusedSimpArgs false
theorem num64_ok {s : Gl01Src} (hs : SOk s) : Ok (fun k => spec_l01Src_l02Num k s) (fun r => SOk r.2 ∧ L.i64 r.1) := by
  unfold spec_l01Src_l02Num
  refine Ok.bind (n_ok hs 5 (by omega)) fun t ht => Ok.cond (fun _ => Ok.bind (edge_ok ht.1) fun u hu => Ok.pure hu) fun _ => Ok.cond (fun _ => Ok.bind (n_ok ht.1 9 (by omega)) fun u hu => ?_) fun _ => Ok.cond (fun _ => Ok.bind (n_ok ht.1 10 (by omega)) fun u hu => ?_) fun _ => Ok.bind (n_ok ht.1 1099511627776 (by omega)) fun u hu => ?_
  · have := hu.2
    refine Ok.pure ⟨hu.1, ?_⟩
    rw [wrap_id (by omega) (by omega)]
    exact ⟨by omega, by omega⟩
  · refine Ok.idx hu.2.1 (by have := hu.2.2; simp at this ⊢; omega) fun m hm => Ok.pure ⟨hu.1, ?_⟩
    have := List.mem_of_getElem? hm
    simp only [List.mem_cons, List.not_mem_nil, or_false] at this
    show -9223372036854775808 ≤ m ∧ m ≤ 9223372036854775807
    omega
  · have := hu.2
    refine Ok.pure ⟨hu.1, ?_⟩
    rw [wrap_id (by omega) (by omega)]
    exact ⟨by omega, by omega⟩
theorem anyVal_ok {s : Gl01Src} (hs : SOk s) : Ok (fun k => spec_l01Src_l10AnyVal k s) (fun r => SOk r.2 ∧ L.i64 r.1.b) := by
  unfold spec_l01Src_l10AnyVal
  refine Ok.bind (n_ok hs 4 (by omega)) fun t ht => Ok.cond (fun _ => Ok.bind (n_ok ht.1 5 (by omega)) fun u hu => ?_) fun _ => Ok.cond (fun _ => Ok.bind (n_ok ht.1 4 (by omega)) fun u hu => Ok.bind (n_ok hu.1 2 (by omega)) fun v hv => Ok.bind (n_ok hv.1 3 (by omega)) fun x hx => ?_) fun _ => Ok.bind (n_ok ht.1 23 (by omega)) fun u hu => ?_
  · have := hu.2
    refine Ok.pure ⟨hu.1, ?_⟩
    dsimp only
    rw [wrap_id (by omega) (by omega)]
    exact ⟨by omega, by omega⟩
  · have := hx.2
    exact Ok.pure ⟨hx.1, by dsimp only; exact ⟨by omega, by omega⟩⟩
  · have := hu.2
    exact Ok.pure ⟨hu.1, by dsimp only; exact ⟨by omega, by omega⟩⟩
theorem drawVal_ok (code : List Int) (hc : code.length ≤ 1048576) : Ok (fun k => spec_DrawValText k code) (fun r => L.i64 r.b) := by
  unfold spec_DrawValText
  refine Ok.bind (source_ok code hc) fun s hs => Ok.bind (one_ok hs 3 (by omega)) fun t ht => Ok.cond (fun _ => Ok.bind (num64_ok ht) fun u hu => Ok.pure hu.2) fun _ => Ok.bind (anyVal_ok ht) fun u hu => Ok.pure hu.2
theorem law_fnvals (code more : List Int) (h1 : code.length ≤ 9223372036854775807) (h2 : more.length ≤ 9223372036854775807) : Ev (fun k => laws_FnVals k code more) true := by
  unfold laws_FnVals
  refine Ev.bind (a := if (code.length : Int) > 1048576 then .inl true else if (more.length : Int) > 1048576 then .inl true else .inr (code, more)) ?_ ?_
  · unfold laws_FnVals.a1
    by_cases c : (code.length : Int) > 1048576
    · rw [if_pos c]; exact Ev.ct (dt c) Ev.pure
    · rw [if_neg c]
      refine Ev.cf (df c) ?_
      by_cases c2 : (more.length : Int) > 1048576
      · rw [if_pos c2]; exact Ev.ct (dt c2) Ev.pure
      · rw [if_neg c2]; exact Ev.cf (df c2) Ev.pure
  by_cases c : (code.length : Int) > 1048576
  · rw [if_pos c]; exact Ev.pure
  rw [if_neg c]
  by_cases c2 : (more.length : Int) > 1048576
  · rw [if_pos c2]; exact Ev.pure
  rw [if_neg c2]
  dsimp only [Sum.elim_inr]
  obtain ⟨a, ha, ha2⟩ := drawVal_ok code (by omega)
  obtain ⟨b, hb, hb2⟩ := drawVal_ok more (by omega)
  refine Ev.bind ha (Ev.bind hb (Ev.bind (Ev.const (implValText ha2)) (Ev.bind (Ev.const (implValText hb2)) (Ev.bind (specValText ha2) (Ev.ct (by simp) (Ev.bind (specValText hb2) (Ev.ct (by simp) ?_)))))))
  have hl := law_vals_at a b
  have e0 : ((str (valTT a)).toList == (⟨#[]⟩ : ByteArray).toList) = decide (valTT a = []) := by
    rw [toList_str, show (⟨#[]⟩ : ByteArray) = str [] from rfl, toList_str]
    by_cases c : valTT a = [] <;> simp [c]
  by_cases c : valTT a = []
  · exact Ev.ct (by rw [e0]; exact dt c) Ev.pure
  · rw [if_neg c] at hl
    refine Ev.cf (by rw [e0]; exact df c) ?_
    rw [hl]
    exact Ev.pure
end Go.Proofs.YtdlaplgofgklnaaDoor