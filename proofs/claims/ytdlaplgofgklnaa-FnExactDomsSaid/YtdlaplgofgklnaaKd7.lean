/- WHAT IS PROVED: the law FnExactDoms of the program, for every input. Conditions: none. -/
import Derived.Test.YtdlaplgofgklnaaKd6
namespace Go.Proofs.Ytdlaplgofgklnaa
open Go.Proofs Go.Proofs.Ytdlaplgofgklnaa.L
set_option linter.unusedVariables false
set_option linter.unusedSimpArgs false

theorem predsUp_mem {code : List GI2} {h : List Int} {t : Int} : ∀ {x : Nat} {p : Int}, p ∈ predsUp code h t x → ∃ n : Nat, n < x ∧ p = (n : Int) ∧ hit code h t n = true
  | 0, p, hp => by simp [predsUp] at hp
  | x + 1, p, hp => by
    simp only [predsUp, List.mem_append] at hp
    rcases hp with hp | hp
    · obtain ⟨n, h1, h2⟩ := predsUp_mem hp
      exact ⟨n, by omega, h2⟩
    · split at hp
      · rename_i hh
        rw [List.mem_singleton] at hp
        exact ⟨x, by omega, hp, hh⟩
      · cases hp

/-- Has a place a height? -/
def live (h : List Int) (i : Nat) : Bool := match h[i]? with
  | some y => decide (0 ≤ y)
  | none => false
theorem live_of {h : List Int} {i : Nat} {y : Int} (e : h[i]? = some y) : live h i = decide (0 ≤ y) := by simp [live, e]
def allUp (h : List Int) : Nat → B
  | 0 => 0#64
  | x + 1 => if live h x = true then allUp h x ||| bitB x else allUp h x
theorem allUp_get (h : List Int) : ∀ (x n : Nat), x ≤ 64 → (allUp h x).getLsbD n = (decide (n < x) && live h n)
  | 0, n, hx => by simp [allUp]
  | x + 1, n, hx => by
    have ih := allUp_get h x n (by omega)
    unfold allUp
    split
    · rename_i hl
      rw [BitVec.getLsbD_or, ih, bitB_get _ _ (by omega)]
      by_cases e : n = x
      · subst e; simp [hl]
      · have : decide (n < x + 1) = decide (n < x) := by rw [decide_eq_decide]; omega
        simp [e, this]
    · rename_i hl
      rw [ih]
      by_cases e : n = x
      · subst e; simp [hl]
      · have : decide (n < x + 1) = decide (n < x) := by rw [decide_eq_decide]; omega
        rw [this]
def startUp (h : List Int) (all : B) (len : Nat) : Nat → List B
  | 0 => List.replicate len 0#64
  | x + 1 => if live h x = true then (startUp h all len x).set x all else startUp h all len x
theorem startUp_len (h : List Int) (all : B) (len : Nat) : ∀ x, (startUp h all len x).length = len
  | 0 => by simp [startUp]
  | x + 1 => by unfold startUp; split <;> simp [startUp_len h all len x]
theorem startUp_at (h : List Int) (all : B) (len : Nat) : ∀ (x j : Nat), x ≤ len → j < x → at0 (startUp h all len x) j = if live h j = true then all else 0#64
  | 0, j, _, hj => by omega
  | x + 1, j, hx, hj => by
    have later : ∀ (x j : Nat), x ≤ j → j < len → at0 (startUp h all len x) j = 0#64 := by
      intro x
      induction x with
      | zero => intro j _ hj; simp [startUp, at0, List.getElem?_replicate, hj]
      | succ x ih =>
        intro j h1 h2
        unfold startUp
        split
        · rw [at0_set _ (by rw [startUp_len]; omega), if_neg (by omega)]
          exact ih j (by omega) h2
        · exact ih j (by omega) h2
    unfold startUp
    by_cases e : j = x
    · subst e
      split
      · rename_i hl
        rw [at0_set _ (by rw [startUp_len]; omega), if_pos rfl]
      · rename_i hl
        exact later j j (by omega) (by omega)
    · have ih := startUp_at h all len x j (by omega) (by omega)
      split
      · rw [at0_set _ (by rw [startUp_len]; omega), if_neg (by omega)]
        exact ih
      · exact ih

/-- What is known of a function here. -/
structure Fn (p : GProgram) (f : Nat) (m : GFunc) (h : List Int) : Prop where
  at_ : p.funcs[f]? = some m
  size : h.length = m.code.length
  code : 1 ≤ m.code.length ∧ m.code.length ≤ 60
abbrev prs (m : GFunc) (h : List Int) : Nat → List Int := fun i => predsUp m.code h (i : Int) m.code.length
abbrev allB (m : GFunc) (h : List Int) : B := allUp h m.code.length
abbrev start (m : GFunc) (h : List Int) : List B := (startUp h (allB m h) m.code.length m.code.length).set 0 1#64
theorem start_inv {p : GProgram} {f : Nat} {m : GFunc} {h : List Int} (hF : Fn p f m h) : SInv (prs m h) (allB m h) (live h) m.code.length (start m h) := by
  have hc := hF.code
  have at_ : ∀ i, i < m.code.length → at0 (start m h) i = if 0 = i then 1#64 else if live h i = true then allB m h else 0#64 := by
    intro i hi
    rw [at0_set _ (by rw [startUp_len]; omega)]
    split
    · rfl
    · exact startUp_at _ _ _ _ _ (Nat.le_refl _) hi
  refine ⟨by simp [startUp_len], fun i h1 h2 h3 => ?_, fun i h2 h3 => ?_⟩
  · rw [at_ i h2, if_neg (by omega), if_pos h3]
    intro n hn
    unfold newB at hn
    rw [BitVec.getLsbD_or, Bool.or_eq_true] at hn
    rcases hn with hn | hn
    · exact meet_into _ _ _ n hn
    · rw [bitB_get _ _ (by omega)] at hn
      have : n = i := by simpa using hn
      subst this
      rw [allUp_get _ _ _ (by omega), h3]
      simp [h2]
  · rw [at_ i h2]
    by_cases e : 0 = i
    · subst e; simp
    · rw [if_neg e, if_pos h3, allUp_get _ _ _ (by omega), h3]
      simp [h2]

/-! ### The reference -/
theorem specAll {m : GFunc} {h : List Int} (hl : h.length = m.code.length) (hc : m.code.length ≤ 60) (out : List (List Int)) : ∀ (d x : Nat), m.code.length - x = d → x ≤ m.code.length →
    Ev (fun k => spec_l17Doms.l1 k h out (allUp h x).toInt (x : Int)) (h, out, (allB m h).toInt) := by
  intro d
  induction d with
  | zero =>
    intro x hd hx
    have : x = m.code.length := by omega
    subst this
    refine Ev.succ ?_
    simp only [spec_l17Doms.l1]
    exact Ev.cf (df (by omega)) Ev.pure
  | succ d ih =>
    intro x hd hx
    obtain ⟨y, hy⟩ := list_get (show x < h.length by omega)
    have := ih (x + 1) (by omega) (by omega)
    refine Ev.succ ?_
    simp only [spec_l17Doms.l1]
    refine Ev.ct (dt (by omega)) (Ev.idx hy ?_)
    rw [wrap_nat (by omega)]
    by_cases c : 0 ≤ y
    · refine Ev.ct (dt c) (Ev.bind (Ev.const (bit_ev x (by omega))) ?_)
      rw [ior_t]
      simpa only [allUp, live_of hy, dt c, if_true] using this
    · refine Ev.cf (df c) ?_
      simpa only [allUp, live_of hy, df c, Bool.false_eq_true, if_false] using this

theorem specStart {m : GFunc} {h : List Int} (hl : h.length = m.code.length) (hc : m.code.length ≤ 60) (out : List (List Int)) (all : B) : ∀ (d x : Nat), m.code.length - x = d → x ≤ m.code.length →
    Ev (fun k => spec_l17Doms.l2 k h out (tI (startUp h all m.code.length x)) all.toInt (x : Int)) (h, out, tI (startUp h all m.code.length m.code.length), all.toInt) := by
  intro d
  induction d with
  | zero =>
    intro x hd hx
    have : x = m.code.length := by omega
    subst this
    refine Ev.succ ?_
    simp only [spec_l17Doms.l2]
    exact Ev.cf (df (by omega)) Ev.pure
  | succ d ih =>
    intro x hd hx
    obtain ⟨y, hy⟩ := list_get (show x < h.length by omega)
    obtain ⟨v, hv⟩ := list_get (show x < (startUp h all m.code.length x).length by rw [startUp_len]; omega)
    have := ih (x + 1) (by omega) (by omega)
    refine Ev.succ ?_
    simp only [spec_l17Doms.l2]
    refine Ev.ct (dt (by omega)) (Ev.idx hy ?_)
    rw [wrap_nat (by omega)]
    by_cases c : 0 ≤ y
    · refine Ev.ct (dt c) (Ev.idx (tI_get hv) ?_)
      rw [Int.toNat_natCast, tI_set]
      simpa only [startUp, live_of hy, dt c, if_true] using this
    · refine Ev.cf (df c) ?_
      simpa only [startUp, live_of hy, df c, Bool.false_eq_true, if_false] using this

theorem specMeet {h : List Int} {out : List (List Int)} {ds : List B} (all : Int) (c : Bool) (i : Nat) : ∀ (ns pre : List Int) (m : B), (pre ++ ns).length < 100 → out[i]? = some (pre ++ ns) → (∀ p ∈ ns, ∃ n : Nat, p = (n : Int) ∧ n < ds.length) →
    Ev (fun k => spec_l17Doms.l6 k h out (tI ds) all c (i : Int) m.toInt (pre.length : Int)) (h, out, tI ds, all, c, (i : Int), (meet ds ns m).toInt)
  | [], pre, m, hp, ho, hn => by
    refine Ev.succ ?_
    simp only [spec_l17Doms.l6]
    refine Ev.idx ho (Ev.cf (df (by simp)) ?_)
    rw [Int.toNat_natCast, set_same ho]
    exact Ev.pure
  | t :: ns, pre, m, hp, ho, hn => by
    have hmid := at_mid pre t ns
    have hl : (pre.length : Int) < ((pre ++ t :: ns).length : Int) := by simp; omega
    have pre' : pre ++ t :: ns = (pre ++ [t]) ++ ns := by simp
    have plen : ((pre.length + 1 : Nat) : Int) = ((pre ++ [t]).length : Int) := by simp
    obtain ⟨n, rfl, hlt⟩ := hn t (by simp)
    obtain ⟨v, hv⟩ := list_get hlt
    have := specMeet (h := h) all c i ns (pre ++ [(n : Int)]) (m &&& v) (by rw [← pre']; exact hp) (by rw [← pre']; exact ho) (fun p hp => hn p (List.mem_cons_of_mem _ hp))
    refine Ev.succ ?_
    simp only [spec_l17Doms.l6]
    refine Ev.idx ho (Ev.ct (dt hl) (Ev.idx hmid (Ev.idx (tI_get hv) ?_)))
    rw [wrap_nat (by simp at hp; omega), plen, Int.toNat_natCast, set_same ho, iand_t]
    simpa only [meet, Int.toNat_natCast, at0_of hv] using this

theorem specSweep {m : GFunc} {h : List Int} (hl : h.length = m.code.length) (hc : m.code.length ≤ 60) {out : List (List Int)} (ht : Tab m.code h m.code.length out) : ∀ (d i : Nat) (ds : List B) (c : Bool), m.code.length - i = d → 1 ≤ i → i ≤ m.code.length → ds.length = m.code.length →
    Ev (fun k => spec_l17Doms.l4 k h out (tI ds) (allB m h).toInt c (i : Int)) (h, out, tI (sweep (prs m h) (allB m h) (live h) d i ds c).1, (allB m h).toInt, (sweep (prs m h) (allB m h) (live h) d i ds c).2)
  | 0, i, ds, c, hd, h1, h2, h3 => by
    refine Ev.succ ?_
    simp only [spec_l17Doms.l4]
    exact Ev.cf (df (by omega)) Ev.pure
  | d + 1, i, ds, c, hd, h1, h2, h3 => by
    obtain ⟨y, hy⟩ := list_get (show i < h.length by omega)
    obtain ⟨v, hv⟩ := list_get (show i < ds.length by omega)
    refine Ev.succ ?_
    simp only [spec_l17Doms.l4]
    by_cases c0 : 0 ≤ y
    · have hlv : live h i = true := by rw [live_of hy]; exact dt c0
      have hro := ht.row i (by omega)
      have hm6 := specMeet (h := h) (ds := ds) (allB m h).toInt c i (prs m h i) [] (allB m h) (by have := predsUp_length m.code h (i : Int) m.code.length; simp [prs]; omega) hro (fun p hp => by
        obtain ⟨n, g1, g2, -⟩ := predsUp_mem hp
        exact ⟨n, g2, by omega⟩)
      have ha5 : Ev (fun k => spec_l17Doms.a5 k h out (tI ds) (allB m h).toInt c (i : Int)) (h, out, tI (ds.set i (newB (prs m h) (allB m h) ds i)), (allB m h).toInt, (c || newB (prs m h) (allB m h) ds i != at0 ds i), (i : Int)) := by
        unfold spec_l17Doms.a5
        refine Ev.idx hy (Ev.cf (df (by omega)) (Ev.bind hm6 (Ev.bind (Ev.const (bit_ev i (by omega))) ?_)))
        simp only []
        rw [ior_t, Int.toNat_natCast, tI_set]
        cases c with
        | true => exact Ev.ct rfl (Ev.idx (tI_get hv) Ev.pure)
        | false =>
          refine Ev.cf rfl (Ev.idx (tI_get hv) ?_)
          rw [toInt_ne, at0_of hv, Bool.false_or]
          exact Ev.pure
      have := specSweep hl hc ht d (i + 1) (ds.set i (newB (prs m h) (allB m h) ds i)) (c || newB (prs m h) (allB m h) ds i != at0 ds i) (by omega) (by omega) (by omega) (by simp [h3])
      refine Ev.ct (dt (by omega)) (Ev.bind ha5 ?_)
      simp only []
      rw [wrap_nat (by omega)]
      simpa only [sweep, hlv, if_true] using this
    · have hlv : live h i = false := by rw [live_of hy]; exact df c0
      have ha5 : Ev (fun k => spec_l17Doms.a5 k h out (tI ds) (allB m h).toInt c (i : Int)) (h, out, tI ds, (allB m h).toInt, c, (i : Int)) := by
        unfold spec_l17Doms.a5
        exact Ev.idx hy (Ev.ct (dt (by omega)) Ev.pure)
      have := specSweep hl hc ht d (i + 1) ds c (by omega) (by omega) (by omega) h3
      refine Ev.ct (dt (by omega)) (Ev.bind ha5 ?_)
      simp only []
      rw [wrap_nat (by omega)]
      simpa only [sweep, hlv, Bool.false_eq_true, if_false] using this

theorem sweep_len (pr : Nat → List Int) (all : B) (lv : Nat → Bool) : ∀ (d i : Nat) (ds : List B) (c : Bool), (sweep pr all lv d i ds c).1.length = ds.length
  | 0, i, ds, c => rfl
  | d + 1, i, ds, c => by
    unfold sweep
    split
    · rw [sweep_len]; simp
    · rw [sweep_len]

theorem specRounds {m : GFunc} {h : List Int} (hl : h.length = m.code.length) (hc : 1 ≤ m.code.length ∧ m.code.length ≤ 60) {out : List (List Int)} (ht : Tab m.code h m.code.length out) {ds o : List B} (hr : Rounds (prs m h) (allB m h) (live h) m.code.length ds o) : ds.length = m.code.length →
    Ev (fun k => spec_l17Doms.l3 k h out (tI ds) (allB m h).toInt true) (tI o) := by
  induction hr with
  | @stop ds ds' e =>
    intro h3
    have := specSweep hl hc.2 ht (m.code.length - 1) 1 ds false rfl (by omega) (by omega) h3
    rw [e] at this
    refine Ev.succ ?_
    simp only [spec_l17Doms.l3]
    refine Ev.ct rfl (Ev.bind this ?_)
    refine Ev.succ ?_
    simp only [spec_l17Doms.l3]
    exact Ev.cf rfl Ev.pure
  | @go ds ds' o e h2 ih =>
    intro h3
    have := specSweep hl hc.2 ht (m.code.length - 1) 1 ds false rfl (by omega) (by omega) h3
    have hlen := sweep_len (prs m h) (allB m h) (live h) (m.code.length - 1) 1 ds false
    rw [e] at this hlen
    refine Ev.succ ?_
    simp only [spec_l17Doms.l3]
    exact Ev.ct rfl (Ev.bind this (ih (by simpa [h3] using hlen)))

/-! ### The program -/
theorem implAll {p : GProgram} {hs : List (List Int)} {f : Nat} {m : GFunc} {h : List Int} (hF : Fn p f m h) (hh : hs[f]? = some h) : ∀ (d x : Nat), m.code.length - x = d → x ≤ m.code.length →
    Ev (fun k => impl_prog_doms.l1 k ⟨p, hs⟩ (f : Int) (allUp h x).toInt (m.code.length : Int) (x : Int)) (⟨p, hs⟩, (f : Int), (allB m h).toInt) := by
  have hf := (List.getElem?_eq_some_iff.1 hF.at_).1
  have hl := hF.size
  have hc := hF.code
  intro d
  induction d with
  | zero =>
    intro x hd hx
    have : x = m.code.length := by omega
    subst this
    refine Ev.succ ?_
    simp only [impl_prog_doms.l1]
    exact Ev.cf (df (by omega)) Ev.pure
  | succ d ih =>
    intro x hd hx
    obtain ⟨y, hy⟩ := list_get (show x < h.length by omega)
    have := ih (x + 1) (by omega) (by omega)
    refine Ev.succ ?_
    simp only [impl_prog_doms.l1]
    refine Ev.ct (dt (by omega)) (Ev.bind (Ev.const (reached_ev hf hh hy)) ?_)
    rw [wrap_nat (by omega)]
    by_cases c : 0 ≤ y
    · refine Ev.ct (dt c) (Ev.gd (by omega) ?_)
      rw [ishl_t x (by omega), ior_t]
      simpa only [allUp, live_of hy, dt c, if_true] using this
    · refine Ev.cf (df c) ?_
      simpa only [allUp, live_of hy, df c, Bool.false_eq_true, if_false] using this

theorem all_test {m : GFunc} {h : List Int} (hc : m.code.length ≤ 60) {x : Nat} (hx : x < m.code.length) : iand .i64 (ishr .i64 (allB m h).toInt (x : Int)) 1 = if live h x = true then 1 else 0 := by
  rw [test_t _ _ (by omega), allUp_get _ _ _ (by omega)]
  simp [hx]

theorem implStart {m : GFunc} {h : List Int} (g : Gprog) (f : Int) (hc : m.code.length ≤ 60) : ∀ (d x : Nat), m.code.length - x = d → x ≤ m.code.length →
    Ev (fun k => impl_prog_doms.l2 k (tI (startUp h (allB m h) m.code.length x)) g f (allB m h).toInt (m.code.length : Int) (x : Int)) (tI (startUp h (allB m h) m.code.length m.code.length), g, f, (allB m h).toInt) := by
  intro d
  induction d with
  | zero =>
    intro x hd hx
    have : x = m.code.length := by omega
    subst this
    refine Ev.succ ?_
    simp only [impl_prog_doms.l2]
    exact Ev.cf (df (by omega)) Ev.pure
  | succ d ih =>
    intro x hd hx
    obtain ⟨v, hv⟩ := list_get (show x < (startUp h (allB m h) m.code.length x).length by rw [startUp_len]; omega)
    have := ih (x + 1) (by omega) (by omega)
    refine Ev.succ ?_
    simp only [impl_prog_doms.l2]
    refine Ev.ct (dt (by omega)) (Ev.gd (by omega) ?_)
    rw [wrap_nat (by omega), all_test hc (by omega)]
    cases c : live h x with
    | true =>
      refine Ev.ct (by simp) (Ev.idx (tI_get hv) ?_)
      rw [Int.toNat_natCast, tI_set]
      simpa only [startUp, c, if_true] using this
    | false =>
      refine Ev.cf (by simp) ?_
      simpa only [startUp, c, Bool.false_eq_true, if_false] using this

theorem implMeet {ds : List B} (g : Gprog) (f all : Int) (c : Bool) (i : Int) : ∀ (ns pre : List Int) (m : B), (pre ++ ns).length < 100 → (∀ p ∈ ns, ∃ n : Nat, p = (n : Int) ∧ n < ds.length) →
    Ev (fun k => impl_prog_doms.l6 k (tI ds) (pre ++ ns) g f all c i m.toInt ((pre ++ ns).length : Int) (pre.length : Int)) (tI ds, g, f, all, c, i, (meet ds ns m).toInt)
  | [], pre, m, hp, hn => by
    refine Ev.succ ?_
    simp only [impl_prog_doms.l6]
    exact Ev.cf (df (by simp)) Ev.pure
  | t :: ns, pre, m, hp, hn => by
    have hmid := at_mid pre t ns
    have hl : (pre.length : Int) < ((pre ++ t :: ns).length : Int) := by simp; omega
    have pre' : pre ++ t :: ns = (pre ++ [t]) ++ ns := by simp
    have plen : ((pre.length + 1 : Nat) : Int) = ((pre ++ [t]).length : Int) := by simp
    obtain ⟨n, rfl, hlt⟩ := hn t (by simp)
    obtain ⟨v, hv⟩ := list_get hlt
    have := implMeet g f all c i ns (pre ++ [(n : Int)]) (m &&& v) (by rw [← pre']; exact hp) (fun p hp => hn p (List.mem_cons_of_mem _ hp))
    refine Ev.succ ?_
    simp only [impl_prog_doms.l6]
    refine Ev.ct (dt hl) (Ev.idx hmid (Ev.idx (tI_get hv) ?_))
    rw [wrap_nat (by simp at hp; omega), plen, iand_t, pre']
    simpa only [meet, Int.toNat_natCast, at0_of hv] using this

theorem implSweep {p : GProgram} {hs : List (List Int)} {f : Nat} {m : GFunc} {h : List Int} (hF : Fn p f m h) (hh : hs[f]? = some h) : ∀ (d i : Nat) (ds : List B) (c : Bool), m.code.length - i = d → 1 ≤ i → i ≤ m.code.length → ds.length = m.code.length →
    Ev (fun k => impl_prog_doms.l4 k (tI ds) ⟨p, hs⟩ (f : Int) (allB m h).toInt c (i : Int)) (tI (sweep (prs m h) (allB m h) (live h) d i ds c).1, ⟨p, hs⟩, (f : Int), (allB m h).toInt, (sweep (prs m h) (allB m h) (live h) d i ds c).2)
  | 0, i, ds, c, hd, h1, h2, h3 => by
    refine Ev.succ ?_
    simp only [impl_prog_doms.l4]
    exact Ev.cf (df (by simp [h3]; omega)) Ev.pure
  | d + 1, i, ds, c, hd, h1, h2, h3 => by
    have hc := hF.code
    obtain ⟨v, hv⟩ := list_get (show i < ds.length by omega)
    refine Ev.succ ?_
    simp only [impl_prog_doms.l4]
    cases hlv : live h i with
    | true =>
      have hm6 := implMeet (ds := ds) ⟨p, hs⟩ (f : Int) (allB m h).toInt c (i : Int) (prs m h i) [] (allB m h) (by have := predsUp_length m.code h (i : Int) m.code.length; simp [prs]; omega) (fun p hp => by
        obtain ⟨n, g1, g2, -⟩ := predsUp_mem hp
        exact ⟨n, g2, by omega⟩)
      have ha5 : Ev (fun k => impl_prog_doms.a5 k (tI ds) ⟨p, hs⟩ (f : Int) (allB m h).toInt c (i : Int)) (tI (ds.set i (newB (prs m h) (allB m h) ds i)), ⟨p, hs⟩, (f : Int), (allB m h).toInt, (c || newB (prs m h) (allB m h) ds i != at0 ds i), (i : Int)) := by
        unfold impl_prog_doms.a5
        refine Ev.gd (by omega) ?_
        rw [all_test hc.2 (by omega), hlv]
        refine Ev.cf (by simp) (Ev.bind (implPreds hF.at_ hh hF.size hc.2 (i : Int)) (Ev.bind hm6 (Ev.gd (by simp only []; omega) ?_)))
        simp only []
        rw [ishl_t i (by omega), ior_t, Int.toNat_natCast, tI_set]
        cases c with
        | true => exact Ev.ct rfl (Ev.idx (tI_get hv) Ev.pure)
        | false =>
          refine Ev.cf rfl (Ev.idx (tI_get hv) ?_)
          rw [toInt_ne, at0_of hv, Bool.false_or]
          exact Ev.pure
      have := implSweep hF hh d (i + 1) (ds.set i (newB (prs m h) (allB m h) ds i)) (c || newB (prs m h) (allB m h) ds i != at0 ds i) (by omega) (by omega) (by omega) (by simp [h3])
      refine Ev.ct (dt (by simp [h3]; omega)) (Ev.bind ha5 ?_)
      simp only []
      rw [wrap_nat (by omega)]
      simpa only [sweep, hlv, if_true] using this
    | false =>
      have ha5 : Ev (fun k => impl_prog_doms.a5 k (tI ds) ⟨p, hs⟩ (f : Int) (allB m h).toInt c (i : Int)) (tI ds, ⟨p, hs⟩, (f : Int), (allB m h).toInt, c, (i : Int)) := by
        unfold impl_prog_doms.a5
        refine Ev.gd (by omega) ?_
        rw [all_test hc.2 (by omega), hlv]
        exact Ev.ct (by simp) Ev.pure
      have := implSweep hF hh d (i + 1) ds c (by omega) (by omega) (by omega) h3
      refine Ev.ct (dt (by simp [h3]; omega)) (Ev.bind ha5 ?_)
      simp only []
      rw [wrap_nat (by omega)]
      simpa only [sweep, hlv, Bool.false_eq_true, if_false] using this

theorem implRounds {p : GProgram} {hs : List (List Int)} {f : Nat} {m : GFunc} {h : List Int} (hF : Fn p f m h) (hh : hs[f]? = some h) {ds o : List B} (hr : Rounds (prs m h) (allB m h) (live h) m.code.length ds o) : ds.length = m.code.length →
    Ev (fun k => impl_prog_doms.l3 k (tI ds) ⟨p, hs⟩ (f : Int) (allB m h).toInt true) (tI o) := by
  have hc := hF.code
  induction hr with
  | @stop ds ds' e =>
    intro h3
    have := implSweep hF hh (m.code.length - 1) 1 ds false rfl (by omega) (by omega) h3
    rw [e] at this
    refine Ev.succ ?_
    simp only [impl_prog_doms.l3]
    refine Ev.ct rfl (Ev.bind this ?_)
    refine Ev.succ ?_
    simp only [impl_prog_doms.l3]
    exact Ev.cf rfl Ev.pure
  | @go ds ds' o e h2 ih =>
    intro h3
    have := implSweep hF hh (m.code.length - 1) 1 ds false rfl (by omega) (by omega) h3
    have hlen := sweep_len (prs m h) (allB m h) (live h) (m.code.length - 1) 1 ds false
    rw [e] at this hlen
    refine Ev.succ ?_
    simp only [impl_prog_doms.l3]
    exact Ev.ct rfl (Ev.bind this (ih (by simpa [h3] using hlen)))

/-- The masks of a function: the program's, and what is known of them. -/
theorem implDoms {p : GProgram} {hs : List (List Int)} {f : Nat} {m : GFunc} {h : List Int} (hF : Fn p f m h) (hh : hs[f]? = some h) {o : List B} (hr : Rounds (prs m h) (allB m h) (live h) m.code.length (start m h) o) :
    Ev (fun k => impl_prog_doms k ⟨p, hs⟩ (f : Int)) (tI o) := by
  have hc := hF.code
  have hcode := code_ev (hs := hs) hF.at_
  have h1 := implAll hF hh _ 0 rfl (by omega)
  have h2 := implStart (m := m) (h := h) ⟨p, hs⟩ (f : Int) hc.2 _ 0 rfl (by omega)
  have e0 : tI (startUp h (allB m h) m.code.length 0) = List.replicate m.code.length 0 := by simp [tI, startUp]
  rw [e0] at h2
  obtain ⟨v, hv⟩ := list_get (show 0 < (startUp h (allB m h) m.code.length m.code.length).length by rw [startUp_len]; omega)
  have h3 := implRounds hF hh hr (by simp [startUp_len])
  have e1 : (tI (startUp h (allB m h) m.code.length m.code.length)).set 0 1 = tI (start m h) := by
    rw [← tI_set]; rfl
  unfold impl_prog_doms
  refine Ev.bind (Ev.const hcode) (Ev.bind h1 (Ev.bind (Ev.const hcode) (Ev.gd ⟨by omega, by omega, by omega⟩ (Ev.bind h2 ?_))))
  refine Ev.bind (a := v.toInt) (Ev.const ?_) ?_
  · rw [show (0 : Int) = ((0 : Nat) : Int) from rfl, idx_nat]
    exact tI_get hv
  · rw [e1]
    exact Ev.bind h3 Ev.pure
theorem specDoms {p : GProgram} (ha : Args64 p) (hp : RightP p) {f : Nat} {m : GFunc} {h : List Int} (hF : Fn p f m h) (hN : RunN p m (some h)) {o : List B} (hr : Rounds (prs m h) (allB m h) (live h) m.code.length (start m h) o) :
    Ev (fun k => spec_l17Doms k p (f : Int)) (tI o) := by
  have hc := hF.code
  have hl := hF.size
  obtain ⟨out, t1, t2⟩ := specPredsTab ha hp hF.at_ hN hl
  have h1 := specAll hl hc.2 out _ 0 rfl (by omega)
  have h2 := specStart hl hc.2 out (allB m h) _ 0 rfl (by omega)
  have e0 : tI (startUp h (allB m h) m.code.length 0) = List.replicate h.length 0 := by simp [tI, startUp, hl]
  rw [e0] at h2
  obtain ⟨v, hv⟩ := list_get (show 0 < (startUp h (allB m h) m.code.length m.code.length).length by rw [startUp_len]; omega)
  have h3 := specRounds hl hc t2 hr (by simp [startUp_len])
  have e1 : (tI (startUp h (allB m h) m.code.length m.code.length)).set 0 1 = tI (start m h) := by
    rw [← tI_set]; rfl
  unfold spec_l17Doms
  refine Ev.bind (specHeightsN ha hp hF.at_ hN) (Ev.bind t1 (Ev.bind h1 (Ev.gd ⟨by simp only []; omega, by simp only []; omega, by simp only []; omega⟩ (Ev.bind h2 ?_))))
  refine Ev.bind (a := v.toInt) (Ev.const ?_) ?_
  · rw [show (0 : Int) = ((0 : Nat) : Int) from rfl, idx_nat]
    exact tI_get hv
  · simp only []
    rw [e1]
    exact Ev.bind h3 Ev.pure

/-- Both answer alike. -/
theorem doms_both {p : GProgram} (ha : Args64 p) (hn : p.funcs.length ≤ 1048576) (f : Int) : ∃ l, Ev (fun k => impl_Doms k p f) l ∧ Ev (fun k => spec_Doms k p f) l ∧ l.length ≤ 60 := by
  obtain ⟨hs, ok, k1, k2, k3⟩ := knownFunc_ev ha hn f
  obtain ⟨ok2, s1, s2⟩ := specIs_ev ha hn f
  by_cases c : RightP p ∧ 0 ≤ f ∧ f < (p.funcs.length : Int)
  · have e1 : ok = true := k2.2 c
    have e2 : ok2 = true := s2.2 c
    subst e1 e2
    obtain ⟨hp, hf0, hf1⟩ := c
    obtain ⟨n, rfl⟩ := Int.eq_ofNat_of_zero_le hf0
    obtain ⟨m, hm⟩ := list_get (show n < p.funcs.length by omega)
    have hc := (hp.all m (List.mem_of_getElem? hm)).1.code
    obtain ⟨h, hh, hr, hl⟩ := (k3 hp).at_ n m hm
    have hF : Fn p n m h := ⟨hm, hl, hc⟩
    obtain ⟨o, o1, o2⟩ := rounds_ex (by omega) hc.1 _ _ rfl (start_inv hF)
    refine ⟨tI o, ?_, ?_, ?_⟩
    · unfold impl_Doms
      exact Ev.bind k1 (Ev.cf rfl (Ev.bind (implDoms hF hh o1) Ev.pure))
    · unfold spec_Doms
      exact Ev.bind s1 (Ev.cf rfl (Ev.bind (specDoms ha hp hF hr o1) Ev.pure))
    · have := o2.size
      simp [tI]
      omega
  · have e1 : ok = false := by cases ok with | false => rfl | true => exact absurd (k2.1 rfl) c
    have e2 : ok2 = false := by cases ok2 with | false => rfl | true => exact absurd (s2.1 rfl) c
    subst e1 e2
    refine ⟨[], ?_, ?_, by simp⟩
    · unfold impl_Doms
      exact Ev.bind k1 (Ev.ct rfl Ev.pure)
    · unfold spec_Doms
      exact Ev.bind s1 (Ev.ct rfl Ev.pure)

/-- The law. -/
theorem law_doms (p : GProgram) (f : Int) (ha : Args64 p) (h1 : p.funcs.length ≤ 9223372036854775807) (h2 : ∀ m ∈ p.funcs, m.code.length ≤ 9223372036854775807) : Ev (fun k => laws_FnExactDoms k p f) true := by
  obtain ⟨t, ht, hcase⟩ := szProgram_ev p h1 h2
  rcases hcase with h | ⟨h, hS⟩
  · unfold laws_FnExactDoms
    exact Ev.bind ht (Ev.ct (dt h) Ev.pure)
  · obtain ⟨l, p1, p2, p3⟩ := doms_both ha hS.funcs f
    obtain ⟨mk, n', m1, m2⟩ := markProgram_ev hS
    obtain ⟨l', m3, m4, m5⟩ := mark_held l (by omega)
    have ha1 : Ev (fun k => laws_FnExactDoms.a1 k p.funcs l l f ((n' : Nat) : Int)) (.inr (p.funcs, l, l, f)) := by
      unfold laws_FnExactDoms.a1
      exact Ev.cf (df (by omega)) (Ev.bind (eqInt64S_ev l (by omega)) (Ev.cf rfl Ev.pure))
    unfold laws_FnExactDoms
    refine Ev.bind ht (Ev.cf (df (by omega)) (Ev.bind (toProgram_ev hS) (Ev.bind p2 (Ev.bind (toProgram_ev hS) (Ev.bind p1 (Ev.bind (eqInt64S_ev l (by omega)) (Ev.cf rfl (Ev.bind (toProgram_ev hS) (Ev.bind (eqProgram_ev hS) (Ev.cf rfl (Ev.bind m1 (Ev.gd m2 (Ev.bind ha1 ?_)))))))))))))
    simp only [Sum.elim_inr]
    refine Ev.bind m3 (Ev.gd m4 (Ev.bind m5 (Ev.cf (df (by omega)) (Ev.cf (by simp) (Ev.bind (toProgram_ev (p := p) hS) (Ev.bind p1 (Ev.bind (eqInt64S_ev l (by omega)) (Ev.cf rfl (Ev.bind m5 (Ev.cf (df (by omega)) (Ev.cf (by simp) Ev.pure)))))))))))

end Go.Proofs.Ytdlaplgofgklnaa
namespace Go.Proofs.Ytdlaplgofgklnaa
open Go.Proofs Go.Proofs.Ytdlaplgofgklnaa.L
set_option maxHeartbeats 1000000
set_option linter.unusedSimpArgs false
set_option linter.unusedVariables false
open Go.ChangeShapes Go.WideShapes Go.RowKit
set_option maxRecDepth 100000

def GI2.ok (x : GI2) : Prop := L.i64 x.a ∧ L.i64 x.b
def GFunc.ok (x : GFunc) : Prop := L.i64 x.args ∧ L.i64 x.locals ∧ (x.code.length ≤ 9223372036854775807 ∧ ∀ z ∈ x.code, z.ok)
def GProgram.ok (x : GProgram) : Prop := (x.funcs.length ≤ 9223372036854775807 ∧ ∀ z ∈ x.funcs, z.ok)
theorem shp_t159 (m : Nat) (ds : List D) (h : Shp Try.prog m 159 ds) : ∃ x : GI2, ds = GI2.cells x ∧ x.ok := by
  obtain ⟨k, dss, rfl, h0⟩ := L.shp_struct Try.underlying159 h
  cases h0 with
  | cons g0 h1 =>
    cases h1 with
    | cons g1 h2 =>
      cases h2
      obtain ⟨z0, rfl, w0⟩ := L.shp_i64 Try.underlying2 g0
      obtain ⟨z1, rfl, w1⟩ := L.shp_i64 Try.underlying2 g1
      exact ⟨⟨z0, z1⟩, rfl, w0, w1⟩
theorem el_t159 (m : Nat) (ds : List D) (h : Shp Try.prog m 159 ds) : ∃ z : GI2, ds = GI2.cells z ∧ z.ok := by
  obtain ⟨z0, e, w0⟩ := shp_t159 _ _ h
  exact ⟨z0, e, w0⟩
theorem shp_t103 (m : Nat) (ds : List D) (h : Shp Try.prog m 103 ds) : ∃ x : GFunc, ds = (GFunc.cells .bor) x ∧ x.ok := by
  obtain ⟨k, dss, rfl, h0⟩ := L.shp_struct Try.underlying103 h
  cases h0 with
  | cons g0 h1 =>
    cases h1 with
    | cons g1 h2 =>
      cases h2 with
      | cons g2 h3 =>
        cases h3
        obtain ⟨z0, rfl, w0⟩ := L.shp_i64 Try.underlying2 g0
        obtain ⟨z1, rfl, w1⟩ := L.shp_i64 Try.underlying2 g1
        obtain ⟨z2, rfl, wl2, wo2⟩ := L.shp_slice (s := 2) (f := GI2.cells) (ok := fun z => z.ok) Try.underlying101 (by kernel_rfl) (fun k ds h => el_t159 k ds h) g2
        exact ⟨⟨z0, z1, z2⟩, rfl, w0, w1, ⟨wl2, wo2⟩⟩
theorem el_t103 (m : Nat) (ds : List D) (h : Shp Try.prog m 103 ds) : ∃ z : GFunc, ds = (GFunc.cells .bor) z ∧ z.ok := by
  obtain ⟨z0, e, w0⟩ := shp_t103 _ _ h
  exact ⟨z0, e, w0⟩
theorem shp_t24 (m : Nat) (ds : List D) (h : Shp Try.prog m 24 ds) : ∃ x : GProgram, ds = (GProgram.cells .bor) x ∧ x.ok := by
  obtain ⟨k, dss, rfl, h0⟩ := L.shp_struct Try.underlying24 h
  cases h0 with
  | cons g0 h1 =>
    cases h1
    obtain ⟨z0, rfl, wl0, wo0⟩ := L.shp_slice (s := 3) (f := (GFunc.cells .bor)) (ok := fun z => z.ok) Try.underlying22 (by kernel_rfl) (fun k ds h => el_t103 k ds h) g0
    exact ⟨⟨z0⟩, rfl, ⟨wl0, wo0⟩⟩
theorem args64_of {p : GProgram} (h : p.ok) : Args64 p := fun f hf => (h.2 f hf).1
theorem codes_of {p : GProgram} (h : p.ok) : ∀ m ∈ p.funcs, m.code.length ≤ 9223372036854775807 := fun f hf => (h.2 f hf).2.2.1

theorem Try.own : ownKnob Try.prog.godebug = none := by kernel_rfl
theorem Try.laidOut : laidOutB Try.prog = true := by kernel_rfl

theorem fnExactDoms_con (xs : List V) (hs : L.All2 (ShpV Try.prog 12) Try.f5.params.toList xs) : Con Try.prog 5 xs [] (V.bool true) [] := by
  rw [Try.params5] at hs
  cases hs with
  | cons s0 t0 =>
    cases t0 with
    | cons s1 t1 =>
      cases t1
      obtain ⟨ds0, rfl, q0⟩ := L.shpV_agg Try.underlying24 s0
      obtain ⟨p0, rfl, k0⟩ := shp_t24 _ _ q0
      obtain ⟨p1, rfl, k1⟩ := L.shpV_i64 Try.underlying2 s1
      obtain ⟨k, hk⟩ := (law_doms p0 p1 (args64_of k0) k0.1 (codes_of k0)).ex
      exact c_laws_FnExactDoms hk

theorem fnExactDoms_read : ∀ t ∈ Try.f5.params.toList, Try.prog.readableRec t = true ∧ t < Try.prog.types.size := by
  rw [Try.params5]
  intro t ht
  simp only [List.mem_cons, List.not_mem_nil, or_false] at ht
  rcases ht with rfl | rfl
  all_goals exact ⟨by kernel_rfl, of_decide_eq_true (by kernel_rfl)⟩
theorem fnExactDoms_plain : ∀ t ∈ Try.f5.params.toList, plainT Try.prog 12 t = true := by
  rw [Try.params5]
  intro t ht
  simp only [List.mem_cons, List.not_mem_nil, or_false] at ht
  rcases ht with rfl | rfl
  all_goals kernel_rfl

theorem fnExactDoms_lifted (os : Os) (started : os.Started) (H : Type) (enc : TypeId × Value → H) :
    ReturnsInHanded {} Try.checked os 5 .any (Rows.fnExactDomsSpec.pre6 enc Try.prog Try.f5 Rows.fnExactDomsRow.domain false) (Rows.fnExactDomsSpec.post enc Try.prog Try.f5 false true false false) := by
  refine returnsInHanded_of_change (C := Try.checked) Try.own started (by kernel_rfl) Try.func5
    (ChangeSpec.witness6 (enc := enc) (C := Try.checked) false ⟨#[], #[.agg #[.slice none 0 0], .int .i64 0], []⟩ 8 (by kernel_rfl) (by kernel_rfl) (by kernel_rfl) (by kernel_rfl)) ?_
  intro W base args ds gs before hval hW hcnd _
  obtain ⟨p, q, hA0, -⟩ := id hW
  have hB0 : DataW.TrodAll enc Try.prog W 0 (fun _ => true) true Try.f5.params.toList args.toList ds p := hA0
  rw [Try.params5] at hB0
  obtain ⟨v0, vs0, d0, ds0, pa0, pb0, -, rfl, -, -, hB1⟩ := trodAll_cons hB0
  obtain ⟨v1, vs1, d1, ds1, pa1, pb1, -, rfl, -, -, hB2⟩ := trodAll_cons hB1
  obtain ⟨-, rfl, -⟩ := trodAll_nil hB2
  exact row_contract Try.laidOut fnExactDoms_con fnExactDoms_plain fnExactDoms_read rfl rfl Try.underlying4 rfl hval hW

theorem fnExactDoms_holds : Rows.FnExactDomsSaid :=
  OpenClaim.holds_of_wide 5 Try.f5 rfl rfl rfl rfl rfl rfl rfl ⟨rfl, rfl, rfl, rfl, rfl⟩ rfl rfl rfl rfl rfl (by kernel_rfl) Try.func5 (by kernel_rfl)
    (of_decide_eq_true (by kernel_rfl)) (by unfold Func.isWrapper; first | (rw [if_pos (by decide +kernel)]; kernel_rfl) | (rw [if_neg (by decide +kernel)]; exact ⟨rfl, rfl⟩))
    (fun os started H enc _ => fnExactDoms_lifted os started H enc)

end Go.Proofs.Ytdlaplgofgklnaa
