/- WHAT IS PROVED: an abstract walker over the model, what some functions of the program answer, and laws of these answers. Conditions: none. -/
import Derived.Test.YtdlaplgofgklnaaDoorKd11
import Derived.Lib.ItoaMem
import Derived.Lib.ItoaLen
namespace Go.Proofs.YtdlaplgofgklnaaDoor
open Go.Proofs Go.Proofs.YtdlaplgofgklnaaDoor.L
set_option linter.unusedVariables false
set_option linter.unusedSimpArgs false
def Ev {α : Type} (f : Nat → Option α) (v : α) : Prop := ∃ k0, ∀ k, k0 ≤ k → f k = some v
theorem Ev.pure {α : Type} {v : α} : Ev (fun _ => some v) v := ⟨0, fun _ _ => rfl⟩
theorem Ev.of {α : Type} {f : Nat → Option α} {v : α} (h : ∀ k, f k = some v) : Ev f v := ⟨0, fun k _ => h k⟩
theorem Ev.const {α : Type} {x : Option α} {v : α} (h : x = some v) : Ev (fun _ => x) v := ⟨0, fun _ _ => h⟩
theorem Ev.bind {α β : Type} {f : Nat → Option α} {g : Nat → α → Option β} {a : α} {v : β} (h1 : Ev f a) (h2 : Ev (fun k => g k a) v) : Ev (fun k => (f k).bind (g k)) v := by
  obtain ⟨k1, h1⟩ := h1
  obtain ⟨k2, h2⟩ := h2
  refine ⟨max k1 k2, fun k hk => ?_⟩
  show (f k).bind (g k) = some v
  rw [h1 k (by omega)]
  exact h2 k (by omega)
theorem Ev.succ {α : Type} {f : Nat → Option α} {v : α} (h : Ev (fun k => f (k + 1)) v) : Ev f v := by
  obtain ⟨k0, h⟩ := h
  refine ⟨k0 + 1, fun k hk => ?_⟩
  obtain ⟨m, rfl⟩ : ∃ m, k = m + 1 := ⟨k - 1, by omega⟩
  exact h m (by omega)
theorem Ev.ex {α : Type} {f : Nat → Option α} {v : α} (h : Ev f v) : ∃ k, f k = some v := by
  obtain ⟨k0, h⟩ := h
  exact ⟨k0, h k0 (Nat.le_refl _)⟩
theorem Ev.gd {α : Type} {p : Prop} [Decidable p] {f : Nat → Option α} {v : α} (hp : p) (h : Ev f v) : Ev (fun k => L.gd p (f k)) v := by
  obtain ⟨k0, h⟩ := h
  refine ⟨k0, fun k hk => ?_⟩
  show L.gd p (f k) = some v
  unfold L.gd
  rw [if_pos hp]
  exact h k hk
theorem Ev.ct {α : Type} {b : Bool} {f g : Nat → Option α} {v : α} (hb : b = true) (h : Ev f v) : Ev (fun k => cond b (f k) (g k)) v := by subst hb; exact h
theorem Ev.cf {α : Type} {b : Bool} {f g : Nat → Option α} {v : α} (hb : b = false) (h : Ev g v) : Ev (fun k => cond b (f k) (g k)) v := by subst hb; exact h
theorem Ev.idx {α β : Type} {l : List α} {i : Nat} {m : α} {g : Nat → α → Option β} {v : β} (h : l[i]? = some m) (h2 : Ev (fun k => g k m) v) : Ev (fun k => (L.idx l (i : Int)).bind (g k)) v := by
  refine Ev.bind (a := m) (Ev.const ?_) h2
  unfold L.idx
  have := (List.getElem?_eq_some_iff.1 h).1
  rw [if_pos ⟨by omega, by omega⟩]
  simpa using h
theorem idx_nat {α : Type} {l : List α} {i : Nat} : L.idx l (i : Int) = l[i]? := by
  unfold L.idx
  split
  · simp
  · rename_i h
    have : l.length ≤ i := by omega
    rw [List.getElem?_eq_none this]
theorem idx_of {α : Type} {l : List α} {i : Int} (h0 : 0 ≤ i) : L.idx l i = l[i.toNat]? := by
  obtain ⟨n, rfl⟩ := Int.eq_ofNat_of_zero_le h0
  rw [idx_nat]; rfl
theorem wrap_nat {k : Nat} (h : k < 4611686018427387904) : IntKind.i64.wrap ((k : Int) + 1) = ((k + 1 : Nat) : Int) := wrapS h
theorem wrap_id {x : Int} (h1 : -9223372036854775808 ≤ x) (h2 : x ≤ 9223372036854775807) : IntKind.i64.wrap x = x := wrapIn h1 h2
theorem dt {p : Prop} [Decidable p] (h : p) : decide p = true := decide_eq_true h
theorem df {p : Prop} [Decidable p] (h : ¬ p) : decide p = false := decide_eq_false h
def str (l : List UInt8) : ByteArray := ⟨l.toArray⟩
theorem str_append (a b : List UInt8) : str a ++ str b = str (a ++ b) := by
  unfold str
  apply ByteArray.ext
  simp
theorem str_size (a : List UInt8) : (str a).size = a.length := by unfold str; simp [ByteArray.size]
theorem strL_one (x : Int) : strL [x] = str [UInt8.ofNat x.toNat] := rfl
theorem toList_loop (bs : ByteArray) : ∀ (d i : Nat) (r : List UInt8), bs.size - i = d → i ≤ bs.size → ByteArray.toList.loop bs i r = r.reverse ++ bs.data.toList.drop i := by
  intro d
  induction d with
  | zero =>
    intro i r hd hi
    have : i = bs.size := by omega
    unfold ByteArray.toList.loop
    rw [if_neg (by omega), List.drop_eq_nil_of_le (by rw [Array.length_toList]; show bs.data.size ≤ i; have : bs.data.size = bs.size := rfl; omega)]
    simp
  | succ d ih =>
    intro i r hd hi
    unfold ByteArray.toList.loop
    rw [if_pos (by omega), ih (i + 1) _ (by omega) (by omega)]
    have hlt : i < bs.data.toList.length := by rw [Array.length_toList]; show i < bs.size; omega
    have e : bs.get! i = bs.data.toList[i] := by
      have h1 : i < bs.data.size := by rw [Array.length_toList] at hlt; exact hlt
      show bs.data[i]! = _
      rw [getElem!_pos bs.data i h1]
      simp
    rw [List.reverse_cons, List.append_assoc, List.drop_eq_getElem_cons hlt, e]
    rfl
theorem toList_eq (x : ByteArray) : x.toList = x.data.toList := by
  unfold ByteArray.toList
  rw [toList_loop x _ 0 [] rfl (by omega)]
  simp
theorem toList_str (a : List UInt8) : (str a).toList = a := by rw [toList_eq]; unfold str; simp
theorem iquo_eq {x : Int} (h0 : -9223372036854775808 ≤ x) (h1 : x ≤ 9223372036854775807) : iquo .i64 x 10 = x.tdiv 10 := by
  unfold iquo
  have := Int.natAbs_tdiv x 10
  have hb : (x.tdiv 10).natAbs ≤ x.natAbs := by rw [this]; exact Nat.div_le_self _ _
  rcases Int.lt_or_le x 0 with h | h
  · have : x.tdiv 10 ≤ 0 := by
      have e : x = -(-x) := by omega
      rw [e, Int.neg_tdiv]
      have := Int.tdiv_nonneg (show 0 ≤ -x by omega) (show (0 : Int) ≤ 10 by omega)
      omega
    exact wrap_id (by omega) (by omega)
  · have := Int.tdiv_nonneg h (show (0 : Int) ≤ 10 by omega)
    exact wrap_id (by omega) (by omega)
theorem digit_eq {n : Int} : (if n.tmod 10 < 0 then 0 - n.tmod 10 else n.tmod 10) = ((n.natAbs % 10 : Nat) : Int) := by
  have h1 := Int.natAbs_tmod n 10
  have h2 : (10 : Int).natAbs = 10 := rfl
  rw [h2] at h1
  split <;> omega
theorem wrap8 {x : Int} (h0 : 0 ≤ x) (h1 : x < 256) : IntKind.u8.wrap x = x := by
  show x % 256 = x
  omega
def decU (u : Nat) : List UInt8 := if u = 0 then [] else Lib.decDigits u
theorem decU_step {u : Nat} (h : u ≠ 0) : decU (u / 10) ++ [UInt8.ofNat (48 + u % 10)] = Lib.decDigits u := by
  unfold decU
  rw [Lib.decDigits.eq_1 u]
  by_cases c : u < 10
  · rw [dif_pos c, if_pos (by omega)]
    rw [show u % 10 = u by omega]
    rfl
  · rw [dif_neg c, if_neg (by omega)]
theorem dec_l : ∀ (d u : Nat) (n : Int) (b : Bool) (s : List UInt8), u ≤ d → n.natAbs = u → -9223372036854775808 ≤ n → n ≤ 9223372036854775807 → s.length + (if u = 0 then 0 else Lib.nDigits u) ≤ 1000000 →
    Ev (fun k => spec_l01Dec.l1 k n b (str s)) (b, str (decU u ++ s)) := by
  intro d
  induction d with
  | zero =>
    intro u n b s hu hn h0 h1 hs
    refine Ev.succ ?_
    simp only [spec_l01Dec.l1]
    refine Ev.cf (by simp; omega) ?_
    rw [show u = 0 by omega]
    exact Ev.pure
  | succ d ih =>
    intro u n b s hu hn h0 h1 hs
    refine Ev.succ ?_
    simp only [spec_l01Dec.l1]
    by_cases c : n = 0
    · refine Ev.cf (by simp [c]) ?_
      rw [show u = 0 by omega]
      exact Ev.pure
    · refine Ev.ct (by simp [c]) ?_
      have hd := digit_eq (n := n)
      have h10 : u % 10 < 10 := Nat.mod_lt _ (by omega)
      refine Ev.bind (a := (n, b, str s, ((u % 10 : Nat) : Int))) ?_ ?_
      · unfold spec_l01Dec.a2
        rw [hn] at hd
        by_cases c2 : n.tmod 10 < 0
        · rw [if_pos c2] at hd
          rw [← hd]
          have h5 : -10 < n.tmod 10 := Int.lt_tmod_of_pos n (by omega)
          rw [wrap_id (by omega) (by omega)]
          exact Ev.ct (dt c2) Ev.pure
        · rw [if_neg c2] at hd
          rw [← hd]
          exact Ev.cf (df c2) Ev.pure
      · dsimp only
        rw [wrap_id (by omega) (by omega), wrap8 (by omega) (by omega), strL_one, str_append, str_size, str_size]
        have hpos := Lib.nDigits_pos u
        rw [if_neg (by omega)] at hs
        refine Ev.gd (by simp; omega) ?_
        rw [iquo_eq h0 h1]
        have hq := Int.natAbs_tdiv n 10
        have e10 : (10 : Int).natAbs = 10 := rfl
        rw [hn, e10] at hq
        have hle : u / 10 ≤ u := Nat.div_le_self _ _
        have hnd : Lib.nDigits (u / 10) + 1 ≤ Lib.nDigits u ∨ u < 10 := by
          by_cases c3 : u < 10
          · exact .inr c3
          · exact .inl (by rw [Lib.nDigits_big c3]; omega)
        have hq : (n.tdiv 10).natAbs = u / 10 := hq
        have hr : -9223372036854775808 ≤ n.tdiv 10 ∧ n.tdiv 10 ≤ 9223372036854775807 := by
          rcases Int.lt_or_le n 0 with h | h
          · have e : n = -(-n) := by omega
            have h3 : n.tdiv 10 ≤ 0 := by
              rw [e, Int.neg_tdiv]
              have := Int.tdiv_nonneg (show 0 ≤ -n by omega) (show (0 : Int) ≤ 10 by omega)
              omega
            omega
          · have := Int.tdiv_nonneg h (show (0 : Int) ≤ 10 by omega)
            omega
        have := ih (u / 10) (n.tdiv 10) b ([UInt8.ofNat (48 + ((u % 10 : Nat) : Int)).toNat] ++ s) (by omega) hq hr.1 hr.2 (by
          rw [List.length_append, List.length_singleton]
          rcases hnd with h | h
          · split <;> omega
          · have h0' : u / 10 = 0 := by omega
            rw [if_pos h0']
            rw [Lib.nDigits_small h] at hs
            omega)
        rw [← List.append_assoc, show (48 + ((u % 10 : Nat) : Int)).toNat = 48 + u % 10 by omega, decU_step (by omega)] at this
        rw [show decU u = Lib.decDigits u by unfold decU; rw [if_neg (by omega)]]
        exact this
theorem dec_ev {n : Int} (h0 : -9223372036854775808 ≤ n) (h1 : n ≤ 9223372036854775807) : Ev (fun k => spec_l01Dec k n) (str (Lib.itoa n)) := by
  unfold spec_l01Dec
  by_cases c : n = 0
  · refine Ev.ct (by simp [c]) ?_
    subst c
    exact Ev.const (by rw [Lib.itoa, if_neg (by omega), show Int.toNat 0 = 0 from rfl, Lib.decDigits_one (by omega)]; rfl)
  · refine Ev.cf (by simp [c]) ?_
    have hn := Lib.nDigits_pos n.natAbs
    have hle : Lib.nDigits n.natAbs ≤ 20 := Lib.nDigits_le20 _ (by omega)
    refine Ev.bind (dec_l n.natAbs n.natAbs n _ [] (by omega) rfl h0 h1 (by rw [if_neg (by omega)]; simp; omega)) ?_
    rw [List.append_nil, show decU n.natAbs = Lib.decDigits n.natAbs by unfold decU; rw [if_neg (by omega)]]
    by_cases c2 : n < 0
    · refine Ev.ct (dt c2) ?_
      show Ev (fun k => L.gd ((str [45]).size + (str (Lib.decDigits n.natAbs)).size ≤ 9223372036854775807) (some (str [45] ++ str (Lib.decDigits n.natAbs)))) _
      rw [str_size, str_size, Lib.decDigits_length, str_append]
      refine Ev.gd (by simp; omega) (Ev.const ?_)
      rw [Lib.itoa, if_pos c2]
      rfl
    · refine Ev.cf (df c2) (Ev.const ?_)
      rw [Lib.itoa, if_neg c2, show n.natAbs = n.toNat by omega]
theorem digits_eq {n : Int} (h0 : -9223372036854775808 ≤ n) (h1 : n ≤ 9223372036854775807) : impl_digits n = some (str (Lib.itoa n)) := by
  unfold impl_digits strconv_FormatInt L.gd
  rw [if_pos ⟨rfl, h0, h1⟩]
  rfl
def valB (v : GI2) : Bool := if v.a = 0 then decide (v.b = 0) else if v.a = 1 then decide (0 ≤ v.b ∧ v.b < 22) else decide (v.a = 2)
def valT (v : GI2) : List UInt8 := if v.a = 0 then [45] else if v.a = 2 then 35 :: Lib.itoa v.b else if v.b < 6 then 114 :: Lib.itoa v.b else 109 :: Lib.itoa (v.b - 6)
def valTT (v : GI2) : List UInt8 := if valB v then valT v else []
theorem specVal (v : GI2) : spec_l10Val v = some (valB v) := by
  unfold spec_l10Val valB
  by_cases c0 : v.a = 0
  · rw [if_pos c0, show (v.a == 0) = true by simp [c0]]; rfl
  · rw [if_neg c0]
    by_cases c1 : v.a = 1
    · rw [if_pos c1]
      unfold spec_l10Loc
      by_cases c2 : v.b ≥ 0
      · simp [c1, c2]
      · simp [c1, c2]
    · rw [if_neg c1, show (v.a == 0) = false by simp [c0], show (v.a == 1) = false by simp [c1]]; rfl
theorem implVal (v : GI2) : impl_Val_right v = some (valB v) := by
  unfold impl_Val_right valB
  by_cases c0 : v.a = 0
  · rw [if_pos c0, show (v.a == 0) = true by simp [c0]]; rfl
  · rw [if_neg c0]
    by_cases c1 : v.a = 1
    · rw [if_pos c1]
      unfold impl_isLoc impl_in
      by_cases c2 : v.b ≥ 0
      · simp [c1, c2]; omega
      · simp [c1, c2]
    · rw [if_neg c1, show (v.a == 0) = false by simp [c0], show (v.a == 1) = false by simp [c1]]; rfl
theorem valB_kind {v : GI2} (h : valB v = true) (h0 : v.a ≠ 0) (h2 : v.a ≠ 2) : v.a = 1 ∧ 0 ≤ v.b ∧ v.b < 22 := by
  unfold valB at h
  rw [if_neg h0] at h
  by_cases c1 : v.a = 1
  · rw [if_pos c1] at h; exact ⟨c1, of_decide_eq_true h⟩
  · rw [if_neg c1] at h; exact absurd (of_decide_eq_true h) h2
theorem itoa_len {n : Int} (h : L.i64 n) : (Lib.itoa n).length ≤ 21 := Lib.itoa_length_le n h.1 h.2
theorem one_str (c : UInt8) {l : List UInt8} (h : l.length ≤ 1000) : L.gd ((str [c]).size + (str l).size ≤ 9223372036854775807) (some (str [c] ++ str l)) = some (str (c :: l)) := by
  unfold L.gd
  rw [str_size, str_size, str_append, if_pos (by simp; omega)]
  rfl
theorem ev_bind_some {α β : Type} {f : Nat → Option α} {g : α → Option β} {a : α} {v : β} (h1 : Ev f a) (h2 : g a = some v) : Ev (fun k => (f k).bind g) v := Ev.bind h1 (Ev.const h2)
theorem specValText {v : GI2} (h : L.i64 v.b) : Ev (fun k => spec_ValText k v) (str (valTT v)) := by
  unfold spec_ValText valTT
  refine Ev.bind (Ev.const (specVal v)) ?_
  cases hb : valB v with
  | false => exact Ev.ct rfl (Ev.const (by simp [str]))
  | true =>
    refine Ev.cf rfl ?_
    rw [if_pos rfl]
    unfold valT
    by_cases c0 : v.a = 0
    · rw [if_pos c0]; exact Ev.ct (by simp [c0]) (Ev.const rfl)
    rw [if_neg c0]
    refine Ev.cf (by simp [c0]) ?_
    by_cases c2 : v.a = 2
    · rw [if_pos c2]
      refine Ev.ct (by simp [c2]) (ev_bind_some (dec_ev h.1 h.2) ?_)
      exact one_str 35 (by have := itoa_len h; omega)
    rw [if_neg c2]
    refine Ev.cf (by simp [c2]) ?_
    have hk := valB_kind hb c0 c2
    by_cases c6 : v.b < 6
    · rw [if_pos c6]
      refine Ev.ct (dt c6) (ev_bind_some (dec_ev h.1 h.2) ?_)
      exact one_str 114 (by have := itoa_len h; omega)
    · rw [if_neg c6, wrap_id (by omega) (by omega)]
      have h' : L.i64 (v.b - 6) := ⟨by omega, by omega⟩
      refine Ev.cf (df c6) (ev_bind_some (dec_ev h'.1 h'.2) ?_)
      exact one_str 109 (by have := itoa_len h'; omega)
theorem implValText' {v : GI2} (h : L.i64 v.b) (hb : valB v = true) : impl_valText v = some (str (valT v)) := by
  unfold impl_valText valT
  by_cases c0 : v.a = 0
  · rw [if_pos c0]; simp [c0, str]
  rw [if_neg c0, show (v.a == 0) = false by simp [c0], cond_false]
  by_cases c2 : v.a = 2
  · rw [if_pos c2, show (v.a == 2) = true by simp [c2], cond_true, digits_eq h.1 h.2]
    exact one_str 35 (by have := itoa_len h; omega)
  rw [if_neg c2, show (v.a == 2) = false by simp [c2], cond_false]
  have hk := valB_kind hb c0 c2
  by_cases c6 : v.b < 6
  · rw [if_pos c6, dt c6, cond_true, digits_eq h.1 h.2]
    exact one_str 114 (by have := itoa_len h; omega)
  · have h' : L.i64 (v.b - 6) := ⟨by omega, by omega⟩
    rw [if_neg c6, df c6, cond_false, wrap_id (by omega) (by omega), digits_eq h'.1 h'.2]
    exact one_str 109 (by have := itoa_len h'; omega)
theorem implValText {v : GI2} (h : L.i64 v.b) : impl_ValText v = some (str (valTT v)) := by
  unfold impl_ValText valTT
  rw [implVal]
  cases hb : valB v with
  | false => simp [str]
  | true => simp [implValText' h hb]
theorem law_valtext (v : GI2) (h : L.i64 v.b) : Ev (fun k => laws_FnExactValText k v) true := by
  unfold laws_FnExactValText
  refine Ev.bind (Ev.const (v := v) rfl) (Ev.bind (specValText h) (Ev.bind (Ev.const (v := v) rfl) (Ev.bind (Ev.const (implValText h)) (Ev.cf (by simp) Ev.pure))))
def numOf (l : List UInt8) : Nat := l.foldl (fun a c => 10 * a + (c.toNat - 48)) 0
theorem numOf_snoc (l : List UInt8) (c : UInt8) : numOf (l ++ [c]) = 10 * numOf l + (c.toNat - 48) := by unfold numOf; simp
theorem digit_nat {d : Nat} (h : d < 10) : (UInt8.ofNat (48 + d)).toNat = 48 + d := by
  rw [UInt8.toNat_ofNat']
  omega
theorem numOf_dec (u : Nat) : numOf (Lib.decDigits u) = u := by
  induction u using Nat.strongRecOn with
  | _ u ih =>
    rw [Lib.decDigits.eq_1 u]
    by_cases c : u < 10
    · rw [dif_pos c]
      show 10 * 0 + ((UInt8.ofNat (48 + u)).toNat - 48) = u
      rw [digit_nat c]; omega
    · rw [dif_neg c, numOf_snoc, ih (u / 10) (by omega), digit_nat (Nat.mod_lt _ (by omega))]
      omega
theorem dec_digit (u : Nat) : ∀ c ∈ Lib.decDigits u, 48 ≤ c.toNat := by
  induction u using Nat.strongRecOn with
  | _ u ih =>
    intro c hc
    rw [Lib.decDigits.eq_1 u] at hc
    by_cases h : u < 10
    · rw [dif_pos h] at hc
      simp only [List.mem_singleton] at hc
      subst hc
      rw [digit_nat h]; omega
    · rw [dif_neg h] at hc
      rcases List.mem_append.1 hc with h1 | h1
      · exact ih (u / 10) (by omega) c h1
      · simp only [List.mem_singleton] at h1
        subst h1
        rw [digit_nat (Nat.mod_lt _ (by omega))]; omega
theorem dec_inj {u v : Nat} (h : Lib.decDigits u = Lib.decDigits v) : u = v := by
  have := congrArg numOf h
  rwa [numOf_dec, numOf_dec] at this
theorem dec_no_minus {u : Nat} {l : List UInt8} (h : Lib.decDigits u = 45 :: l) : False := by
  have := dec_digit u 45 (by rw [h]; simp)
  revert this
  decide
theorem itoa_inj {m n : Int} (h : Lib.itoa m = Lib.itoa n) : m = n := by
  unfold Lib.itoa at h
  by_cases c1 : m < 0 <;> by_cases c2 : n < 0
  · rw [if_pos c1, if_pos c2] at h
    have := dec_inj (List.cons.inj h).2
    omega
  · rw [if_pos c1, if_neg c2] at h
    exact (dec_no_minus h.symm).elim
  · rw [if_neg c1, if_pos c2] at h
    exact (dec_no_minus h).elim
  · rw [if_neg c1, if_neg c2] at h
    have := dec_inj h
    omega
theorem valT_inj {a b : GI2} (ha : valB a = true) (hb : valB b = true) (h : valT a = valT b) : a = b := by
  obtain ⟨k, n⟩ := a
  obtain ⟨k', n'⟩ := b
  unfold valT at h
  dsimp only at h
  by_cases c0 : k = 0
  · subst c0
    have hn : n = 0 := by unfold valB at ha; simpa using ha
    subst hn
    rw [if_pos rfl] at h
    by_cases d0 : k' = 0
    · subst d0
      have hn : n' = 0 := by unfold valB at hb; simpa using hb
      subst hn; rfl
    · rw [if_neg d0] at h
      split at h
      · cases h
      · split at h <;> cases h
  · rw [if_neg c0] at h
    by_cases d0 : k' = 0
    · rw [if_pos d0] at h
      split at h
      · cases h
      · split at h <;> cases h
    · rw [if_neg d0] at h
      by_cases c2 : k = 2 <;> by_cases d2 : k' = 2
      · rw [if_pos c2, if_pos d2] at h
        have := itoa_inj (List.cons.inj h).2
        rw [c2, d2, this]
      · rw [if_pos c2, if_neg d2] at h
        split at h <;> cases h
      · rw [if_neg c2, if_pos d2] at h
        split at h <;> cases h
      · rw [if_neg c2, if_neg d2] at h
        have h1 := valB_kind ha c0 c2
        have h2 := valB_kind hb d0 d2
        dsimp only at h1 h2
        by_cases e6 : n < 6 <;> by_cases f6 : n' < 6
        · rw [if_pos e6, if_pos f6] at h
          have := itoa_inj (List.cons.inj h).2
          rw [h1.1, h2.1, this]
        · rw [if_pos e6, if_neg f6] at h; cases h
        · rw [if_neg e6, if_pos f6] at h; cases h
        · rw [if_neg e6, if_neg f6] at h
          have := itoa_inj (List.cons.inj h).2
          rw [h1.1, h2.1, show n = n' by omega]
theorem valT_ne (v : GI2) : valT v ≠ [] := by
  unfold valT
  split
  · simp
  · split
    · simp
    · split <;> simp
theorem valTT_eq {a b : GI2} (h : valTT a ≠ []) : (valTT a = valTT b) ↔ a = b := by
  have ha : valB a = true := by
    cases e : valB a with
    | true => rfl
    | false => unfold valTT at h; rw [e] at h; exact absurd rfl h
  refine ⟨fun h2 => ?_, fun h2 => by rw [h2]⟩
  unfold valTT at h2
  rw [if_pos ha] at h2
  cases e : valB b with
  | true => rw [e, if_pos rfl] at h2; exact valT_inj ha e h2
  | false =>
    rw [e] at h2
    exact absurd h2 (valT_ne a)
theorem law_vals_at (a b : GI2) : (if valTT a = [] then true else (((str (valTT a)).toList == (str (valTT b)).toList) == ((a.a == b.a) && (a.b == b.b)))) = true := by
  split
  · rfl
  · rename_i h
    rw [toList_str, toList_str]
    have := valTT_eq (b := b) h
    by_cases c : a = b
    · subst c; simp
    · have h1 : ¬ valTT a = valTT b := fun e => c (this.1 e)
      have h2 : ((a.a == b.a) && (a.b == b.b)) = false := by
        cases e : (a.a == b.a) && (a.b == b.b) with
        | false => rfl
        | true =>
          simp at e
          exfalso
          apply c
          obtain ⟨x, y⟩ := a
          obtain ⟨x', y'⟩ := b
          dsimp only at e
          rw [e.1, e.2]
      rw [h2]
      simp [h1]
end Go.Proofs.YtdlaplgofgklnaaDoor