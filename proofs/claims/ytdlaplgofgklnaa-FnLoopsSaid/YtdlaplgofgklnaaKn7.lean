/- WHAT IS PROVED: the law FnLoops of the program, for every input. Conditions: none. -/
import Derived.Test.YtdlaplgofgklnaaKn6
namespace Go.Proofs.Ytdlaplgofgklnaa
open Go.Proofs Go.Proofs.Ytdlaplgofgklnaa.L
set_option linter.unusedVariables false
set_option linter.unusedSimpArgs false
theorem predsUp_mem {code : List GI2} {h : List Int} {t : Int} : ∀ {x : Nat} {p : Int}, p ∈ predsUp code h t x → ∃ n : Nat, n < x ∧ p = (n : Int) ∧ hit code h t n = true
  | 0, p, hp => by simp [predsUp] at hp
  | x + 1, p, hp => by
    simp only [predsUp, List.mem_append] at hp
    rcases hp with hp | hp
    · obtain ⟨n, h1, h2⟩ := predsUp_mem hp
      exact ⟨n, by omega, h2⟩
    · split at hp
      · rename_i hh
        rw [List.mem_singleton] at hp
        exact ⟨x, by omega, hp, hh⟩
      · cases hp
def live (h : List Int) (i : Nat) : Bool := match h[i]? with
  | some y => decide (0 ≤ y)
  | none => false
theorem live_of {h : List Int} {i : Nat} {y : Int} (e : h[i]? = some y) : live h i = decide (0 ≤ y) := by simp [live, e]
def allUp (h : List Int) : Nat → B
  | 0 => 0#64
  | x + 1 => if live h x = true then allUp h x ||| bitB x else allUp h x
theorem allUp_get (h : List Int) : ∀ (x n : Nat), x ≤ 64 → (allUp h x).getLsbD n = (decide (n < x) && live h n)
  | 0, n, hx => by simp [allUp]
  | x + 1, n, hx => by
    have ih := allUp_get h x n (by omega)
    unfold allUp
    split
    · rename_i hl
      rw [BitVec.getLsbD_or, ih, bitB_get _ _ (by omega)]
      by_cases e : n = x
      · subst e; simp [hl]
      · have : decide (n < x + 1) = decide (n < x) := by rw [decide_eq_decide]; omega
        simp [e, this]
    · rename_i hl
      rw [ih]
      by_cases e : n = x
      · subst e; simp [hl]
      · have : decide (n < x + 1) = decide (n < x) := by rw [decide_eq_decide]; omega
        rw [this]
def startUp (h : List Int) (all : B) (len : Nat) : Nat → List B
  | 0 => List.replicate len 0#64
  | x + 1 => if live h x = true then (startUp h all len x).set x all else startUp h all len x
theorem startUp_len (h : List Int) (all : B) (len : Nat) : ∀ x, (startUp h all len x).length = len
  | 0 => by simp [startUp]
  | x + 1 => by unfold startUp; split <;> simp [startUp_len h all len x]
theorem startUp_at (h : List Int) (all : B) (len : Nat) : ∀ (x j : Nat), x ≤ len → j < x → at0 (startUp h all len x) j = if live h j = true then all else 0#64
  | 0, j, _, hj => by omega
  | x + 1, j, hx, hj => by
    have later : ∀ (x j : Nat), x ≤ j → j < len → at0 (startUp h all len x) j = 0#64 := by
      intro x
      induction x with
      | zero => intro j _ hj; simp [startUp, at0, List.getElem?_replicate, hj]
      | succ x ih =>
        intro j h1 h2
        unfold startUp
        split
        · rw [at0_set _ (by rw [startUp_len]; omega), if_neg (by omega)]
          exact ih j (by omega) h2
        · exact ih j (by omega) h2
    unfold startUp
    by_cases e : j = x
    · subst e
      split
      · rename_i hl
        rw [at0_set _ (by rw [startUp_len]; omega), if_pos rfl]
      · rename_i hl
        exact later j j (by omega) (by omega)
    · have ih := startUp_at h all len x j (by omega) (by omega)
      split
      · rw [at0_set _ (by rw [startUp_len]; omega), if_neg (by omega)]
        exact ih
      · exact ih
structure Fn (p : GProgram) (f : Nat) (m : GFunc) (h : List Int) : Prop where
  at_ : p.funcs[f]? = some m
  size : h.length = m.code.length
  code : 1 ≤ m.code.length ∧ m.code.length ≤ 60
abbrev prs (m : GFunc) (h : List Int) : Nat → List Int := fun i => predsUp m.code h (i : Int) m.code.length
abbrev allB (m : GFunc) (h : List Int) : B := allUp h m.code.length
abbrev start (m : GFunc) (h : List Int) : List B := (startUp h (allB m h) m.code.length m.code.length).set 0 1#64
theorem start_inv {p : GProgram} {f : Nat} {m : GFunc} {h : List Int} (hF : Fn p f m h) : SInv (prs m h) (allB m h) (live h) m.code.length (start m h) := by
  have hc := hF.code
  have at_ : ∀ i, i < m.code.length → at0 (start m h) i = if 0 = i then 1#64 else if live h i = true then allB m h else 0#64 := by
    intro i hi
    rw [at0_set _ (by rw [startUp_len]; omega)]
    split
    · rfl
    · exact startUp_at _ _ _ _ _ (Nat.le_refl _) hi
  refine ⟨by simp [startUp_len], fun i h1 h2 h3 => ?_, fun i h2 h3 => ?_⟩
  · rw [at_ i h2, if_neg (by omega), if_pos h3]
    intro n hn
    unfold newB at hn
    rw [BitVec.getLsbD_or, Bool.or_eq_true] at hn
    rcases hn with hn | hn
    · exact meet_into _ _ _ n hn
    · rw [bitB_get _ _ (by omega)] at hn
      have : n = i := by simpa using hn
      subst this
      rw [allUp_get _ _ _ (by omega), h3]
      simp [h2]
  · rw [at_ i h2]
    by_cases e : 0 = i
    · subst e; simp
    · rw [if_neg e, if_pos h3, allUp_get _ _ _ (by omega), h3]
      simp [h2]
theorem specAll {m : GFunc} {h : List Int} (hl : h.length = m.code.length) (hc : m.code.length ≤ 60) (out : List (List Int)) : ∀ (d x : Nat), m.code.length - x = d → x ≤ m.code.length →
    Ev (fun k => spec_l17Doms.l1 k h out (allUp h x).toInt (x : Int)) (h, out, (allB m h).toInt) := by
  intro d
  induction d with
  | zero =>
    intro x hd hx
    have : x = m.code.length := by omega
    subst this
    refine Ev.succ ?_
    simp only [spec_l17Doms.l1]
    exact Ev.cf (df (by omega)) Ev.pure
  | succ d ih =>
    intro x hd hx
    obtain ⟨y, hy⟩ := list_get (show x < h.length by omega)
    have := ih (x + 1) (by omega) (by omega)
    refine Ev.succ ?_
    simp only [spec_l17Doms.l1]
    refine Ev.ct (dt (by omega)) (Ev.idx hy ?_)
    rw [wrap_nat (by omega)]
    by_cases c : 0 ≤ y
    · refine Ev.ct (dt c) (Ev.bind (Ev.const (bit_ev x (by omega))) ?_)
      rw [ior_t]
      simpa only [allUp, live_of hy, dt c, if_true] using this
    · refine Ev.cf (df c) ?_
      simpa only [allUp, live_of hy, df c, Bool.false_eq_true, if_false] using this
theorem specStart {m : GFunc} {h : List Int} (hl : h.length = m.code.length) (hc : m.code.length ≤ 60) (out : List (List Int)) (all : B) : ∀ (d x : Nat), m.code.length - x = d → x ≤ m.code.length →
    Ev (fun k => spec_l17Doms.l2 k h out (tI (startUp h all m.code.length x)) all.toInt (x : Int)) (h, out, tI (startUp h all m.code.length m.code.length), all.toInt) := by
  intro d
  induction d with
  | zero =>
    intro x hd hx
    have : x = m.code.length := by omega
    subst this
    refine Ev.succ ?_
    simp only [spec_l17Doms.l2]
    exact Ev.cf (df (by omega)) Ev.pure
  | succ d ih =>
    intro x hd hx
    obtain ⟨y, hy⟩ := list_get (show x < h.length by omega)
    obtain ⟨v, hv⟩ := list_get (show x < (startUp h all m.code.length x).length by rw [startUp_len]; omega)
    have := ih (x + 1) (by omega) (by omega)
    refine Ev.succ ?_
    simp only [spec_l17Doms.l2]
    refine Ev.ct (dt (by omega)) (Ev.idx hy ?_)
    rw [wrap_nat (by omega)]
    by_cases c : 0 ≤ y
    · refine Ev.ct (dt c) (Ev.idx (tI_get hv) ?_)
      rw [Int.toNat_natCast, tI_set]
      simpa only [startUp, live_of hy, dt c, if_true] using this
    · refine Ev.cf (df c) ?_
      simpa only [startUp, live_of hy, df c, Bool.false_eq_true, if_false] using this
theorem specMeet {h : List Int} {out : List (List Int)} {ds : List B} (all : Int) (c : Bool) (i : Nat) : ∀ (ns pre : List Int) (m : B), (pre ++ ns).length < 100 → out[i]? = some (pre ++ ns) → (∀ p ∈ ns, ∃ n : Nat, p = (n : Int) ∧ n < ds.length) →
    Ev (fun k => spec_l17Doms.l6 k h out (tI ds) all c (i : Int) m.toInt (pre.length : Int)) (h, out, tI ds, all, c, (i : Int), (meet ds ns m).toInt)
  | [], pre, m, hp, ho, hn => by
    refine Ev.succ ?_
    simp only [spec_l17Doms.l6]
    refine Ev.idx ho (Ev.cf (df (by simp)) ?_)
    rw [Int.toNat_natCast, set_same ho]
    exact Ev.pure
  | t :: ns, pre, m, hp, ho, hn => by
    have hmid := at_mid pre t ns
    have hl : (pre.length : Int) < ((pre ++ t :: ns).length : Int) := by simp; omega
    have pre' : pre ++ t :: ns = (pre ++ [t]) ++ ns := by simp
    have plen : ((pre.length + 1 : Nat) : Int) = ((pre ++ [t]).length : Int) := by simp
    obtain ⟨n, rfl, hlt⟩ := hn t (by simp)
    obtain ⟨v, hv⟩ := list_get hlt
    have := specMeet (h := h) all c i ns (pre ++ [(n : Int)]) (m &&& v) (by rw [← pre']; exact hp) (by rw [← pre']; exact ho) (fun p hp => hn p (List.mem_cons_of_mem _ hp))
    refine Ev.succ ?_
    simp only [spec_l17Doms.l6]
    refine Ev.idx ho (Ev.ct (dt hl) (Ev.idx hmid (Ev.idx (tI_get hv) ?_)))
    rw [wrap_nat (by simp at hp; omega), plen, Int.toNat_natCast, set_same ho, iand_t]
    simpa only [meet, Int.toNat_natCast, at0_of hv] using this
theorem specSweep {m : GFunc} {h : List Int} (hl : h.length = m.code.length) (hc : m.code.length ≤ 60) {out : List (List Int)} (ht : Tab m.code h m.code.length out) : ∀ (d i : Nat) (ds : List B) (c : Bool), m.code.length - i = d → 1 ≤ i → i ≤ m.code.length → ds.length = m.code.length →
    Ev (fun k => spec_l17Doms.l4 k h out (tI ds) (allB m h).toInt c (i : Int)) (h, out, tI (sweep (prs m h) (allB m h) (live h) d i ds c).1, (allB m h).toInt, (sweep (prs m h) (allB m h) (live h) d i ds c).2)
  | 0, i, ds, c, hd, h1, h2, h3 => by
    refine Ev.succ ?_
    simp only [spec_l17Doms.l4]
    exact Ev.cf (df (by omega)) Ev.pure
  | d + 1, i, ds, c, hd, h1, h2, h3 => by
    obtain ⟨y, hy⟩ := list_get (show i < h.length by omega)
    obtain ⟨v, hv⟩ := list_get (show i < ds.length by omega)
    refine Ev.succ ?_
    simp only [spec_l17Doms.l4]
    by_cases c0 : 0 ≤ y
    · have hlv : live h i = true := by rw [live_of hy]; exact dt c0
      have hro := ht.row i (by omega)
      have hm6 := specMeet (h := h) (ds := ds) (allB m h).toInt c i (prs m h i) [] (allB m h) (by have := predsUp_length m.code h (i : Int) m.code.length; simp [prs]; omega) hro (fun p hp => by
        obtain ⟨n, g1, g2, -⟩ := predsUp_mem hp
        exact ⟨n, g2, by omega⟩)
      have ha5 : Ev (fun k => spec_l17Doms.a5 k h out (tI ds) (allB m h).toInt c (i : Int)) (h, out, tI (ds.set i (newB (prs m h) (allB m h) ds i)), (allB m h).toInt, (c || newB (prs m h) (allB m h) ds i != at0 ds i), (i : Int)) := by
        unfold spec_l17Doms.a5
        refine Ev.idx hy (Ev.cf (df (by omega)) (Ev.bind hm6 (Ev.bind (Ev.const (bit_ev i (by omega))) ?_)))
        simp only []
        rw [ior_t, Int.toNat_natCast, tI_set]
        cases c with
        | true => exact Ev.ct rfl (Ev.idx (tI_get hv) Ev.pure)
        | false =>
          refine Ev.cf rfl (Ev.idx (tI_get hv) ?_)
          rw [toInt_ne, at0_of hv, Bool.false_or]
          exact Ev.pure
      have := specSweep hl hc ht d (i + 1) (ds.set i (newB (prs m h) (allB m h) ds i)) (c || newB (prs m h) (allB m h) ds i != at0 ds i) (by omega) (by omega) (by omega) (by simp [h3])
      refine Ev.ct (dt (by omega)) (Ev.bind ha5 ?_)
      simp only []
      rw [wrap_nat (by omega)]
      simpa only [sweep, hlv, if_true] using this
    · have hlv : live h i = false := by rw [live_of hy]; exact df c0
      have ha5 : Ev (fun k => spec_l17Doms.a5 k h out (tI ds) (allB m h).toInt c (i : Int)) (h, out, tI ds, (allB m h).toInt, c, (i : Int)) := by
        unfold spec_l17Doms.a5
        exact Ev.idx hy (Ev.ct (dt (by omega)) Ev.pure)
      have := specSweep hl hc ht d (i + 1) ds c (by omega) (by omega) (by omega) h3
      refine Ev.ct (dt (by omega)) (Ev.bind ha5 ?_)
      simp only []
      rw [wrap_nat (by omega)]
      simpa only [sweep, hlv, Bool.false_eq_true, if_false] using this
theorem sweep_len (pr : Nat → List Int) (all : B) (lv : Nat → Bool) : ∀ (d i : Nat) (ds : List B) (c : Bool), (sweep pr all lv d i ds c).1.length = ds.length
  | 0, i, ds, c => rfl
  | d + 1, i, ds, c => by
    unfold sweep
    split
    · rw [sweep_len]; simp
    · rw [sweep_len]
theorem specRounds {m : GFunc} {h : List Int} (hl : h.length = m.code.length) (hc : 1 ≤ m.code.length ∧ m.code.length ≤ 60) {out : List (List Int)} (ht : Tab m.code h m.code.length out) {ds o : List B} (hr : Rounds (prs m h) (allB m h) (live h) m.code.length ds o) : ds.length = m.code.length →
    Ev (fun k => spec_l17Doms.l3 k h out (tI ds) (allB m h).toInt true) (tI o) := by
  induction hr with
  | @stop ds ds' e =>
    intro h3
    have := specSweep hl hc.2 ht (m.code.length - 1) 1 ds false rfl (by omega) (by omega) h3
    rw [e] at this
    refine Ev.succ ?_
    simp only [spec_l17Doms.l3]
    refine Ev.ct rfl (Ev.bind this ?_)
    refine Ev.succ ?_
    simp only [spec_l17Doms.l3]
    exact Ev.cf rfl Ev.pure
  | @go ds ds' o e h2 ih =>
    intro h3
    have := specSweep hl hc.2 ht (m.code.length - 1) 1 ds false rfl (by omega) (by omega) h3
    have hlen := sweep_len (prs m h) (allB m h) (live h) (m.code.length - 1) 1 ds false
    rw [e] at this hlen
    refine Ev.succ ?_
    simp only [spec_l17Doms.l3]
    exact Ev.ct rfl (Ev.bind this (ih (by simpa [h3] using hlen)))
theorem implAll {p : GProgram} {hs : List (List Int)} {f : Nat} {m : GFunc} {h : List Int} (hF : Fn p f m h) (hh : hs[f]? = some h) : ∀ (d x : Nat), m.code.length - x = d → x ≤ m.code.length →
    Ev (fun k => impl_prog_doms.l1 k ⟨p, hs⟩ (f : Int) (allUp h x).toInt (m.code.length : Int) (x : Int)) (⟨p, hs⟩, (f : Int), (allB m h).toInt) := by
  have hf := (List.getElem?_eq_some_iff.1 hF.at_).1
  have hl := hF.size
  have hc := hF.code
  intro d
  induction d with
  | zero =>
    intro x hd hx
    have : x = m.code.length := by omega
    subst this
    refine Ev.succ ?_
    simp only [impl_prog_doms.l1]
    exact Ev.cf (df (by omega)) Ev.pure
  | succ d ih =>
    intro x hd hx
    obtain ⟨y, hy⟩ := list_get (show x < h.length by omega)
    have := ih (x + 1) (by omega) (by omega)
    refine Ev.succ ?_
    simp only [impl_prog_doms.l1]
    refine Ev.ct (dt (by omega)) (Ev.bind (Ev.const (reached_ev hf hh hy)) ?_)
    rw [wrap_nat (by omega)]
    by_cases c : 0 ≤ y
    · refine Ev.ct (dt c) (Ev.gd (by omega) ?_)
      rw [ishl_t x (by omega), ior_t]
      simpa only [allUp, live_of hy, dt c, if_true] using this
    · refine Ev.cf (df c) ?_
      simpa only [allUp, live_of hy, df c, Bool.false_eq_true, if_false] using this
theorem all_test {m : GFunc} {h : List Int} (hc : m.code.length ≤ 60) {x : Nat} (hx : x < m.code.length) : iand .i64 (ishr .i64 (allB m h).toInt (x : Int)) 1 = if live h x = true then 1 else 0 := by
  rw [test_t _ _ (by omega), allUp_get _ _ _ (by omega)]
  simp [hx]
theorem implStart {m : GFunc} {h : List Int} (g : Gprog) (f : Int) (hc : m.code.length ≤ 60) : ∀ (d x : Nat), m.code.length - x = d → x ≤ m.code.length →
    Ev (fun k => impl_prog_doms.l2 k (tI (startUp h (allB m h) m.code.length x)) g f (allB m h).toInt (m.code.length : Int) (x : Int)) (tI (startUp h (allB m h) m.code.length m.code.length), g, f, (allB m h).toInt) := by
  intro d
  induction d with
  | zero =>
    intro x hd hx
    have : x = m.code.length := by omega
    subst this
    refine Ev.succ ?_
    simp only [impl_prog_doms.l2]
    exact Ev.cf (df (by omega)) Ev.pure
  | succ d ih =>
    intro x hd hx
    obtain ⟨v, hv⟩ := list_get (show x < (startUp h (allB m h) m.code.length x).length by rw [startUp_len]; omega)
    have := ih (x + 1) (by omega) (by omega)
    refine Ev.succ ?_
    simp only [impl_prog_doms.l2]
    refine Ev.ct (dt (by omega)) (Ev.gd (by omega) ?_)
    rw [wrap_nat (by omega), all_test hc (by omega)]
    cases c : live h x with
    | true =>
      refine Ev.ct (by simp) (Ev.idx (tI_get hv) ?_)
      rw [Int.toNat_natCast, tI_set]
      simpa only [startUp, c, if_true] using this
    | false =>
      refine Ev.cf (by simp) ?_
      simpa only [startUp, c, Bool.false_eq_true, if_false] using this
theorem implMeet {ds : List B} (g : Gprog) (f all : Int) (c : Bool) (i : Int) : ∀ (ns pre : List Int) (m : B), (pre ++ ns).length < 100 → (∀ p ∈ ns, ∃ n : Nat, p = (n : Int) ∧ n < ds.length) →
    Ev (fun k => impl_prog_doms.l6 k (tI ds) (pre ++ ns) g f all c i m.toInt ((pre ++ ns).length : Int) (pre.length : Int)) (tI ds, g, f, all, c, i, (meet ds ns m).toInt)
  | [], pre, m, hp, hn => by
    refine Ev.succ ?_
    simp only [impl_prog_doms.l6]
    exact Ev.cf (df (by simp)) Ev.pure
  | t :: ns, pre, m, hp, hn => by
    have hmid := at_mid pre t ns
    have hl : (pre.length : Int) < ((pre ++ t :: ns).length : Int) := by simp; omega
    have pre' : pre ++ t :: ns = (pre ++ [t]) ++ ns := by simp
    have plen : ((pre.length + 1 : Nat) : Int) = ((pre ++ [t]).length : Int) := by simp
    obtain ⟨n, rfl, hlt⟩ := hn t (by simp)
    obtain ⟨v, hv⟩ := list_get hlt
    have := implMeet g f all c i ns (pre ++ [(n : Int)]) (m &&& v) (by rw [← pre']; exact hp) (fun p hp => hn p (List.mem_cons_of_mem _ hp))
    refine Ev.succ ?_
    simp only [impl_prog_doms.l6]
    refine Ev.ct (dt hl) (Ev.idx hmid (Ev.idx (tI_get hv) ?_))
    rw [wrap_nat (by simp at hp; omega), plen, iand_t, pre']
    simpa only [meet, Int.toNat_natCast, at0_of hv] using this
theorem implSweep {p : GProgram} {hs : List (List Int)} {f : Nat} {m : GFunc} {h : List Int} (hF : Fn p f m h) (hh : hs[f]? = some h) : ∀ (d i : Nat) (ds : List B) (c : Bool), m.code.length - i = d → 1 ≤ i → i ≤ m.code.length → ds.length = m.code.length →
    Ev (fun k => impl_prog_doms.l4 k (tI ds) ⟨p, hs⟩ (f : Int) (allB m h).toInt c (i : Int)) (tI (sweep (prs m h) (allB m h) (live h) d i ds c).1, ⟨p, hs⟩, (f : Int), (allB m h).toInt, (sweep (prs m h) (allB m h) (live h) d i ds c).2)
  | 0, i, ds, c, hd, h1, h2, h3 => by
    refine Ev.succ ?_
    simp only [impl_prog_doms.l4]
    exact Ev.cf (df (by simp [h3]; omega)) Ev.pure
  | d + 1, i, ds, c, hd, h1, h2, h3 => by
    have hc := hF.code
    obtain ⟨v, hv⟩ := list_get (show i < ds.length by omega)
    refine Ev.succ ?_
    simp only [impl_prog_doms.l4]
    cases hlv : live h i with
    | true =>
      have hm6 := implMeet (ds := ds) ⟨p, hs⟩ (f : Int) (allB m h).toInt c (i : Int) (prs m h i) [] (allB m h) (by have := predsUp_length m.code h (i : Int) m.code.length; simp [prs]; omega) (fun p hp => by
        obtain ⟨n, g1, g2, -⟩ := predsUp_mem hp
        exact ⟨n, g2, by omega⟩)
      have ha5 : Ev (fun k => impl_prog_doms.a5 k (tI ds) ⟨p, hs⟩ (f : Int) (allB m h).toInt c (i : Int)) (tI (ds.set i (newB (prs m h) (allB m h) ds i)), ⟨p, hs⟩, (f : Int), (allB m h).toInt, (c || newB (prs m h) (allB m h) ds i != at0 ds i), (i : Int)) := by
        unfold impl_prog_doms.a5
        refine Ev.gd (by omega) ?_
        rw [all_test hc.2 (by omega), hlv]
        refine Ev.cf (by simp) (Ev.bind (implPreds hF.at_ hh hF.size hc.2 (i : Int)) (Ev.bind hm6 (Ev.gd (by simp only []; omega) ?_)))
        simp only []
        rw [ishl_t i (by omega), ior_t, Int.toNat_natCast, tI_set]
        cases c with
        | true => exact Ev.ct rfl (Ev.idx (tI_get hv) Ev.pure)
        | false =>
          refine Ev.cf rfl (Ev.idx (tI_get hv) ?_)
          rw [toInt_ne, at0_of hv, Bool.false_or]
          exact Ev.pure
      have := implSweep hF hh d (i + 1) (ds.set i (newB (prs m h) (allB m h) ds i)) (c || newB (prs m h) (allB m h) ds i != at0 ds i) (by omega) (by omega) (by omega) (by simp [h3])
      refine Ev.ct (dt (by simp [h3]; omega)) (Ev.bind ha5 ?_)
      simp only []
      rw [wrap_nat (by omega)]
      simpa only [sweep, hlv, if_true] using this
    | false =>
      have ha5 : Ev (fun k => impl_prog_doms.a5 k (tI ds) ⟨p, hs⟩ (f : Int) (allB m h).toInt c (i : Int)) (tI ds, ⟨p, hs⟩, (f : Int), (allB m h).toInt, c, (i : Int)) := by
        unfold impl_prog_doms.a5
        refine Ev.gd (by omega) ?_
        rw [all_test hc.2 (by omega), hlv]
        exact Ev.ct (by simp) Ev.pure
      have := implSweep hF hh d (i + 1) ds c (by omega) (by omega) (by omega) h3
      refine Ev.ct (dt (by simp [h3]; omega)) (Ev.bind ha5 ?_)
      simp only []
      rw [wrap_nat (by omega)]
      simpa only [sweep, hlv, Bool.false_eq_true, if_false] using this
theorem implRounds {p : GProgram} {hs : List (List Int)} {f : Nat} {m : GFunc} {h : List Int} (hF : Fn p f m h) (hh : hs[f]? = some h) {ds o : List B} (hr : Rounds (prs m h) (allB m h) (live h) m.code.length ds o) : ds.length = m.code.length →
    Ev (fun k => impl_prog_doms.l3 k (tI ds) ⟨p, hs⟩ (f : Int) (allB m h).toInt true) (tI o) := by
  have hc := hF.code
  induction hr with
  | @stop ds ds' e =>
    intro h3
    have := implSweep hF hh (m.code.length - 1) 1 ds false rfl (by omega) (by omega) h3
    rw [e] at this
    refine Ev.succ ?_
    simp only [impl_prog_doms.l3]
    refine Ev.ct rfl (Ev.bind this ?_)
    refine Ev.succ ?_
    simp only [impl_prog_doms.l3]
    exact Ev.cf rfl Ev.pure
  | @go ds ds' o e h2 ih =>
    intro h3
    have := implSweep hF hh (m.code.length - 1) 1 ds false rfl (by omega) (by omega) h3
    have hlen := sweep_len (prs m h) (allB m h) (live h) (m.code.length - 1) 1 ds false
    rw [e] at this hlen
    refine Ev.succ ?_
    simp only [impl_prog_doms.l3]
    exact Ev.ct rfl (Ev.bind this (ih (by simpa [h3] using hlen)))
theorem implDoms {p : GProgram} {hs : List (List Int)} {f : Nat} {m : GFunc} {h : List Int} (hF : Fn p f m h) (hh : hs[f]? = some h) {o : List B} (hr : Rounds (prs m h) (allB m h) (live h) m.code.length (start m h) o) :
    Ev (fun k => impl_prog_doms k ⟨p, hs⟩ (f : Int)) (tI o) := by
  have hc := hF.code
  have hcode := code_ev (hs := hs) hF.at_
  have h1 := implAll hF hh _ 0 rfl (by omega)
  have h2 := implStart (m := m) (h := h) ⟨p, hs⟩ (f : Int) hc.2 _ 0 rfl (by omega)
  have e0 : tI (startUp h (allB m h) m.code.length 0) = List.replicate m.code.length 0 := by simp [tI, startUp]
  rw [e0] at h2
  obtain ⟨v, hv⟩ := list_get (show 0 < (startUp h (allB m h) m.code.length m.code.length).length by rw [startUp_len]; omega)
  have h3 := implRounds hF hh hr (by simp [startUp_len])
  have e1 : (tI (startUp h (allB m h) m.code.length m.code.length)).set 0 1 = tI (start m h) := by
    rw [← tI_set]; rfl
  unfold impl_prog_doms
  refine Ev.bind (Ev.const hcode) (Ev.bind h1 (Ev.bind (Ev.const hcode) (Ev.gd ⟨by omega, by omega, by omega⟩ (Ev.bind h2 ?_))))
  refine Ev.bind (a := v.toInt) (Ev.const ?_) ?_
  · rw [show (0 : Int) = ((0 : Nat) : Int) from rfl, idx_nat]
    exact tI_get hv
  · rw [e1]
    exact Ev.bind h3 Ev.pure
theorem specDoms {p : GProgram} (ha : Args64 p) (hp : RightP p) {f : Nat} {m : GFunc} {h : List Int} (hF : Fn p f m h) (hN : RunN p m (some h)) {o : List B} (hr : Rounds (prs m h) (allB m h) (live h) m.code.length (start m h) o) :
    Ev (fun k => spec_l17Doms k p (f : Int)) (tI o) := by
  have hc := hF.code
  have hl := hF.size
  obtain ⟨out, t1, t2⟩ := specPredsTab ha hp hF.at_ hN hl
  have h1 := specAll hl hc.2 out _ 0 rfl (by omega)
  have h2 := specStart hl hc.2 out (allB m h) _ 0 rfl (by omega)
  have e0 : tI (startUp h (allB m h) m.code.length 0) = List.replicate h.length 0 := by simp [tI, startUp, hl]
  rw [e0] at h2
  obtain ⟨v, hv⟩ := list_get (show 0 < (startUp h (allB m h) m.code.length m.code.length).length by rw [startUp_len]; omega)
  have h3 := specRounds hl hc t2 hr (by simp [startUp_len])
  have e1 : (tI (startUp h (allB m h) m.code.length m.code.length)).set 0 1 = tI (start m h) := by
    rw [← tI_set]; rfl
  unfold spec_l17Doms
  refine Ev.bind (specHeightsN ha hp hF.at_ hN) (Ev.bind t1 (Ev.bind h1 (Ev.gd ⟨by simp only []; omega, by simp only []; omega, by simp only []; omega⟩ (Ev.bind h2 ?_))))
  refine Ev.bind (a := v.toInt) (Ev.const ?_) ?_
  · rw [show (0 : Int) = ((0 : Nat) : Int) from rfl, idx_nat]
    exact tI_get hv
  · simp only []
    rw [e1]
    exact Ev.bind h3 Ev.pure
def Closed (pr : Nat → List Int) (M S : B) : Prop := ∀ x, S.getLsbD x = true → M.getLsbD x = false → ∀ p ∈ pr x, S.getLsbD p.toNat = true
structure Body (pr : Nat → List Int) (M : B) (vs : List Int) (R : B) : Prop where
  sub : Sub M R
  has : ∀ v ∈ vs, R.getLsbD v.toNat = true
  closed : Closed pr M R
  least : ∀ S, Sub M S → (∀ v ∈ vs, S.getLsbD v.toNat = true) → Closed pr M S → Sub R S
theorem Sub.anti {a b : B} (h1 : Sub a b) (h2 : Sub b a) : a = b := by
  apply BitVec.eq_of_getLsbD_eq
  intro n _
  cases e : a.getLsbD n with
  | true => exact (h1 n e).symm
  | false => cases e2 : b.getLsbD n with
    | false => rfl
    | true => rw [h2 n e2] at e; cases e
theorem Body.unique {pr : Nat → List Int} {M : B} {vs : List Int} {R R2 : B} (h : Body pr M vs R) (h2 : Body pr M vs R2) : R = R2 :=
  Sub.anti (h.least _ h2.sub h2.has h2.closed) (h2.least _ h.sub h.has h.closed)
theorem Body.nil (pr : Nat → List Int) (M : B) : Body pr M [] M :=
  ⟨Sub.refl _, fun v hv => (by cases hv), fun x h1 h2 => (by rw [h1] at h2; cases h2), fun S h _ _ => h⟩
theorem Body.skip {pr : Nat → List Int} {M : B} {st : List Int} {x : Int} {R : B} (hx : M.getLsbD x.toNat = true) (h : Body pr M st R) : Body pr M (st ++ [x]) R := by
  refine ⟨h.sub, fun v hv => ?_, h.closed, fun S h1 h2 h3 => h.least S h1 (fun v hv => h2 v (by simp [hv])) h3⟩
  rw [List.mem_append, List.mem_singleton] at hv
  rcases hv with hv | rfl
  · exact h.has v hv
  · exact h.sub _ hx
theorem or_bit {M : B} {n m : Nat} (h : n < 64) : (M ||| bitB n).getLsbD m = (M.getLsbD m || decide (m = n)) := by
  rw [BitVec.getLsbD_or, bitB_get _ _ h]
theorem sub_or (M : B) (n : Nat) : Sub M (M ||| bitB n) := fun m hm => by rw [BitVec.getLsbD_or, hm]; rfl
theorem Body.open_ {pr : Nat → List Int} {M : B} {st : List Int} {x : Nat} {R : B} (hx : x < 64) (hM : M.getLsbD x = false) (h : Body pr (M ||| bitB x) (st ++ pr x) R) : Body pr M (st ++ [(x : Int)]) R := by
  have hin : R.getLsbD x = true := h.sub x (by rw [or_bit hx]; simp)
  refine ⟨fun m hm => h.sub m (sub_or M x m hm), fun v hv => ?_, fun y h1 h2 p hp => ?_, fun S h1 h2 h3 => h.least S (fun m hm => ?_) (fun v hv => ?_) (fun y k1 k2 p hp => ?_)⟩
  · rw [List.mem_append, List.mem_singleton] at hv
    rcases hv with hv | rfl
    · exact h.has v (by simp [hv])
    · exact hin
  · by_cases e : y = x
    · subst e
      exact h.has p (by simp [hp])
    · exact h.closed y h1 (by rw [or_bit hx]; simp [h2, e]) p hp
  · rw [or_bit hx, Bool.or_eq_true] at hm
    rcases hm with hm | hm
    · exact h1 m hm
    · have : m = x := by simpa using hm
      subst this
      exact h2 (m : Int) (by simp)
  · rw [List.mem_append] at hv
    rcases hv with hv | hv
    · exact h2 v (by simp [hv])
    · exact h3 x (h2 (x : Int) (by simp)) hM v hv
  · rw [or_bit hx, Bool.or_eq_false_iff] at k2
    exact h3 y k1 k2.1 p hp
theorem Body.cons {pr : Nat → List Int} {M R1 R : B} {p : Int} {ns : List Int} (h1 : Body pr M [p] R1) (h2 : Body pr R1 ns R) : Body pr M (p :: ns) R := by
  refine ⟨fun m hm => h2.sub m (h1.sub m hm), fun v hv => ?_, fun y k1 k2 q hq => ?_, fun S k1 k2 k3 => ?_⟩
  · rcases List.mem_cons.1 hv with rfl | hv
    · exact h2.sub _ (h1.has v (by simp))
    · exact h2.has v hv
  · cases e : R1.getLsbD y with
    | true => exact h2.sub _ (h1.closed y e k2 q hq)
    | false => exact h2.closed y k1 e q hq
  · have s1 : Sub R1 S := h1.least S k1 (fun v hv => k2 v (by rw [List.mem_singleton] at hv; simp [hv])) k3
    refine h2.least S s1 (fun v hv => k2 v (by simp [hv])) fun y j1 j2 q hq => k3 y j1 ?_ q hq
    cases e : M.getLsbD y with
    | false => rfl
    | true => rw [h1.sub y e] at j2; cases j2
def free (M : B) : Nat := ((List.range 64).filter fun n => !M.getLsbD n).length
theorem filter_le {α : Type} {p q : α → Bool} : ∀ (l : List α), (∀ x ∈ l, q x = true → p x = true) → (l.filter q).length ≤ (l.filter p).length
  | [], _ => Nat.le_refl _
  | a :: l, h => by
    have ih := filter_le l fun x hx => h x (List.mem_cons_of_mem _ hx)
    have ha := h a (by simp)
    simp only [List.filter_cons]
    cases e : q a with
    | false => cases p a <;> simp <;> omega
    | true => simp [ha e]; exact ih
theorem filter_lt {α : Type} {p q : α → Bool} : ∀ (l : List α), (∀ x ∈ l, q x = true → p x = true) → (∃ x ∈ l, p x = true ∧ q x = false) → (l.filter q).length < (l.filter p).length
  | [], _, ⟨x, hx, _⟩ => by cases hx
  | a :: l, h, ⟨x, hx, h1, h2⟩ => by
    have le := filter_le l fun x hx => h x (List.mem_cons_of_mem _ hx)
    have ha := h a (by simp)
    rcases List.mem_cons.1 hx with rfl | hx
    · simp [List.filter_cons, h1, h2]
      omega
    · have ih := filter_lt l (fun x hx => h x (List.mem_cons_of_mem _ hx)) ⟨x, hx, h1, h2⟩
      simp only [List.filter_cons]
      cases e : q a with
      | false => cases p a <;> simp <;> omega
      | true => simp [ha e]; exact ih
theorem free_le {M M' : B} (h : Sub M M') : free M' ≤ free M := by
  refine filter_le _ fun n _ hn => ?_
  cases e : M.getLsbD n with
  | false => rfl
  | true => rw [h n e] at hn; cases hn
theorem free_lt {M : B} {x : Nat} (hx : x < 64) (hM : M.getLsbD x = false) : free (M ||| bitB x) < free M := by
  refine filter_lt _ (fun n _ hn => ?_) ⟨x, by simp [hx], by simp [hM], by rw [or_bit hx]; simp⟩
  cases e : M.getLsbD n with
  | false => rfl
  | true => rw [sub_or M x n e] at hn; cases hn
theorem free_top (M : B) : free M ≤ 64 := by
  have := List.length_filter_le (fun n => !M.getLsbD n) (List.range 64)
  simpa [free] using this
theorem test_ne (b : B) (n : Nat) (h : n < 64) : (iand .i64 b.toInt (bitB n).toInt != 0) = b.getLsbD n := by
  rw [iand_t, show (0 : Int) = (0#64 : B).toInt from by decide, toInt_ne]
  have : (b &&& bitB n) = if b.getLsbD n then bitB n else 0#64 := by
    apply BitVec.eq_of_getLsbD_eq
    intro i hi
    rw [BitVec.getLsbD_and, bitB_get _ _ h]
    by_cases e : i = n
    · subst e
      cases e2 : b.getLsbD i with
      | false => simp
      | true => simp [bitB_get _ _ h]
    · cases b.getLsbD n <;> simp [e, bitB_get _ _ h]
  rw [this]
  cases e : b.getLsbD n with
  | false => simp
  | true =>
    simp only [if_true]
    refine bne_iff_ne.2 fun e2 => ?_
    have := bitB_get n n h
    rw [e2] at this
    simp at this
theorem last_at {α : Type} (st : List α) (x : α) : (st ++ [x])[st.length]? = some x := by simp
structure Pr (len : Nat) (pr : Nat → List Int) : Prop where
  short : ∀ i, (pr i).length ≤ 60
  mem : ∀ i, ∀ p ∈ pr i, ∃ n : Nat, p = (n : Int) ∧ n < len
theorem specBody {len : Nat} {pr : Nat → List Int} (hl : len ≤ 60) (hp : Pr len pr) {tab : List (List Int)} (ht : ∀ t, t < len → tab[t]? = some (pr t)) : ∀ (n : Nat) (k : Nat) (M : B) (st : List Int), free M = n → st.length = k → st.length + 60 * free M ≤ 10000 → (∀ p ∈ st, ∃ n : Nat, p = (n : Int) ∧ n < len) →
    ∃ R, Ev (fun k => spec_l17Body.l1 k tab M.toInt st) R.toInt ∧ Body pr M st R := by
  intro n
  induction n using Nat.strongRecOn with
  | ind n ihn =>
    intro k
    induction k with
    | zero =>
      intro M st hn hk hb hst
      have : st = [] := List.length_eq_zero_iff.1 hk
      subst this
      refine ⟨M, ?_, Body.nil pr M⟩
      refine Ev.succ ?_
      simp only [spec_l17Body.l1]
      exact Ev.cf (df (by simp)) Ev.pure
    | succ k ihk =>
      intro M st hn hk hb hst
      obtain ⟨st', y, rfl⟩ : ∃ st' y, st = st' ++ [y] := by
        refine ⟨st.dropLast, st.getLast (by intro e; subst e; simp at hk), ?_⟩
        exact (List.dropLast_concat_getLast _).symm
      obtain ⟨x, rfl, hx⟩ := hst y (by simp)
      have hk' : st'.length = k := by simpa using hk
      have hlen : (((st' ++ [(x : Int)]).length : Int)) - 1 = (st'.length : Int) := by simp
      have hw : IntKind.i64.wrap ((((st' ++ [(x : Int)]).length : Int)) - 1) = (st'.length : Int) := by
        rw [hlen]
        exact wrap_id (by omega) (by simp at hb; omega)
      have htake : (st' ++ [(x : Int)]).take ((st'.length : Int)).toNat = st' := by simp
      have hstp : ∀ p ∈ st', ∃ n : Nat, p = (n : Int) ∧ n < len := fun p h => hst p (by simp [h])
      cases e : M.getLsbD x with
      | true =>
        obtain ⟨R, h1, h2⟩ := ihk M st' hn hk' (by simp at hb; omega) hstp
        refine ⟨R, ?_, Body.skip (by simpa using e) h2⟩
        refine Ev.succ ?_
        simp only [spec_l17Body.l1]
        refine Ev.ct (dt (by simp)) ?_
        rw [hw]
        refine Ev.idx (last_at st' (x : Int)) (Ev.gd ⟨by omega, by simp; omega⟩ (Ev.bind (Ev.const (bit_ev x (by omega))) ?_))
        rw [test_ne _ _ (by omega), htake]
        exact Ev.ct e h1
      | false =>
        have hlt := free_lt (M := M) (x := x) (by omega) e
        have hs := hp.short x
        obtain ⟨R, h1, h2⟩ := ihn _ (by omega) (st' ++ pr x).length (M ||| bitB x) (st' ++ pr x) rfl rfl (by simp at hb ⊢; omega) (fun p h => by
          rw [List.mem_append] at h
          rcases h with h | h
          · exact hstp p h
          · exact hp.mem x p h)
        refine ⟨R, ?_, Body.open_ (by omega) e h2⟩
        refine Ev.succ ?_
        simp only [spec_l17Body.l1]
        refine Ev.ct (dt (by simp)) ?_
        rw [hw]
        refine Ev.idx (last_at st' (x : Int)) (Ev.gd ⟨by omega, by simp; omega⟩ (Ev.bind (Ev.const (bit_ev x (by omega))) ?_))
        rw [test_ne _ _ (by omega), htake]
        refine Ev.cf e (Ev.bind (Ev.const (bit_ev x (by omega))) (Ev.idx (ht x hx) (Ev.gd ⟨by simp at hb ⊢; omega, by simp at hb ⊢; omega⟩ ?_)))
        rw [ior_t]
        exact h1
def Ev2 {α : Type} (f : Nat → Nat → Option α) (v : α) : Prop := ∃ k0, ∀ a b, k0 ≤ a → k0 ≤ b → f a b = some v
theorem Ev2.one {α : Type} {f : Nat → Nat → Option α} {v : α} (h : Ev2 f v) : Ev (fun k => f k k) v := by
  obtain ⟨k0, h⟩ := h
  exact ⟨k0, fun k hk => h k k hk hk⟩
theorem implBodyLoop {pr : Nat → List Int} {M1 : B} {rec : Nat → Gprog → Int → Int → Int → Int → Option Int} (g : Gprog) (f hd : Int) : ∀ (ns pre : List Int) (M : B), (pre ++ ns).length < 100 → Sub M1 M →
    (∀ p ∈ ns, ∀ M', Sub M1 M' → ∃ R, Ev (fun k => rec k g f hd p M'.toInt) R.toInt ∧ Body pr M' [p] R) →
    ∃ R, Ev2 (fun a b => impl_prog_body.l1 (rec a) b (pre ++ ns) g f hd M.toInt ((pre ++ ns).length : Int) (pre.length : Int)) R.toInt ∧ Body pr M ns R
  | [], pre, M, hp, hs, hr => by
    refine ⟨M, ⟨1, fun a b _ hb => ?_⟩, Body.nil pr M⟩
    obtain ⟨b', rfl⟩ : ∃ b', b = b' + 1 := ⟨b - 1, by omega⟩
    simp only [impl_prog_body.l1]
    rw [df (by simp)]
    rfl
  | t :: ns, pre, M, hp, hs, hr => by
    have hmid := at_mid pre t ns
    have hl : (pre.length : Int) < ((pre ++ t :: ns).length : Int) := by simp; omega
    have pre' : pre ++ t :: ns = (pre ++ [t]) ++ ns := by simp
    have plen : ((pre.length + 1 : Nat) : Int) = ((pre ++ [t]).length : Int) := by simp
    obtain ⟨R1, ⟨k1, r1⟩, b1⟩ := hr t (by simp) M hs
    obtain ⟨R, ⟨k2, r2⟩, b2⟩ := implBodyLoop (rec := rec) g f hd ns (pre ++ [t]) R1 (by rw [← pre']; exact hp) (fun m hm => b1.sub m (hs m hm)) (fun p h => hr p (List.mem_cons_of_mem _ h))
    refine ⟨R, ⟨k1 + k2 + 1, fun a b ha hb => ?_⟩, Body.cons b1 b2⟩
    obtain ⟨b', rfl⟩ : ∃ b', b = b' + 1 := ⟨b - 1, by omega⟩
    have q1 : rec a g f hd t M.toInt = some R1.toInt := r1 a (by omega)
    have q2 := r2 a b' (by omega) (by omega)
    simp only [impl_prog_body.l1]
    rw [dt hl, idx_nat, hmid]
    simp only [cond_true, Option.bind_some]
    rw [q1]
    simp only [Option.bind_some]
    rw [wrap_nat (by simp at hp; omega), plen, pre']
    exact q2
theorem implBody {g : Gprog} {f : Int} {len : Nat} {pr : Nat → List Int} (hl : len ≤ 60) (hp : Pr len pr) (hev : ∀ t : Nat, t < len → Ev (fun k => impl_prog_preds k g f (t : Int)) (pr t)) (hd : Int) : ∀ (n : Nat) (M : B) (x : Nat), free M = n → x < len →
    ∃ R, Ev (fun k => impl_prog_body k g f hd (x : Int) M.toInt) R.toInt ∧ Body pr M [(x : Int)] R := by
  intro n
  induction n using Nat.strongRecOn with
  | ind n ih =>
    intro M x hn hx
    cases e : M.getLsbD x with
    | true =>
      refine ⟨M, ?_, by simpa using Body.skip (st := []) (x := (x : Int)) (by simpa using e) (Body.nil pr M)⟩
      refine Ev.succ ?_
      simp only [impl_prog_body]
      refine Ev.gd (by omega) ?_
      rw [test_t _ _ (by omega), e]
      exact Ev.ct (by simp) Ev.pure
    | false =>
      have hlt := free_lt (M := M) (x := x) (by omega) e
      obtain ⟨R, r1, r2⟩ := implBodyLoop (pr := pr) (M1 := M ||| bitB x) (rec := impl_prog_body) g f hd (pr x) [] (M ||| bitB x) (by have := hp.short x; simp; omega) (Sub.refl _) (fun p hpm M' hs => by
        obtain ⟨m, rfl, hm⟩ := hp.mem x p hpm
        have := free_le hs
        exact ih (free M') (by omega) M' m rfl hm)
      refine ⟨R, ?_, by simpa using Body.open_ (st := []) (x := x) (by omega) e (by simpa using r2)⟩
      refine Ev.succ ?_
      simp only [impl_prog_body]
      refine Ev.gd (by omega) ?_
      rw [test_t _ _ (by omega), e]
      refine Ev.cf (by simp) (Ev.gd (by omega) (Ev.bind (hev x hx) ?_))
      rw [ishl_t x (by omega), ior_t]
      exact Ev.bind r1.one Ev.pure
structure Hand (p : GProgram) (hs : List (List Int)) (f : Nat) (m : GFunc) (h : List Int) (tab : List (List Int)) (ds : List B) : Prop where
  fn : Fn p f m h
  hts : hs[f]? = some h
  tab_ : Tab m.code h m.code.length tab
  inv : SInv (prs m h) (allB m h) (live h) m.code.length ds
  goes : ∀ t : Nat, t < m.code.length → prs m h t ≠ [] → live h t = true
theorem Hand.pr {p : GProgram} {hs : List (List Int)} {f : Nat} {m : GFunc} {h : List Int} {tab : List (List Int)} {ds : List B} (H : Hand p hs f m h tab ds) : Pr m.code.length (prs m h) := by
  refine ⟨fun i => ?_, fun i p hp => ?_⟩
  · have := predsUp_length m.code h (i : Int) m.code.length
    have := H.fn.code
    show (predsUp m.code h (i : Int) m.code.length).length ≤ 60
    omega
  · obtain ⟨n, g1, g2, -⟩ := predsUp_mem hp
    exact ⟨n, g2, g1⟩
theorem body_both {p : GProgram} {hs : List (List Int)} {f : Nat} {m : GFunc} {h : List Int} {tab : List (List Int)} {ds : List B} (H : Hand p hs f m h tab ds) (hd : Int) (M : B) {x : Nat} (hx : x < m.code.length) :
    ∃ R, Ev (fun k => spec_l17Body k tab M.toInt (x : Int)) R.toInt ∧ Ev (fun k => impl_prog_body k ⟨p, hs⟩ (f : Int) hd (x : Int) M.toInt) R.toInt ∧ Sub M R := by
  have hc := H.fn.code
  obtain ⟨R, r1, r2⟩ := specBody hc.2 H.pr H.tab_.row _ _ M [(x : Int)] rfl rfl (by have := free_top M; simp; omega) (fun q hq => ⟨x, by simpa using hq, hx⟩)
  obtain ⟨R', q1, q2⟩ := implBody (g := ⟨p, hs⟩) (f := (f : Int)) hc.2 H.pr (fun t ht => implPreds H.fn.at_ H.hts H.fn.size hc.2 (t : Int)) hd _ M x rfl hx
  have := Body.unique r2 q2
  subst this
  exact ⟨R, Ev.bind r1 Ev.pure, q1, r2.sub⟩
theorem edges_both {p : GProgram} {hs : List (List Int)} {f : Nat} {m : GFunc} {h : List Int} {tab : List (List Int)} {ds : List B} (H : Hand p hs f m h tab ds) {t : Nat} (ht : t < m.code.length) (L : List GI3) (a9 a10 : Int) :
    ∀ (ns pre : List Int) (M : B) (c : Bool), pre ++ ns = prs m h t → M.getLsbD t = true → (c = false → M = bitB t) →
    ∃ M' c', M'.getLsbD t = true ∧ (c' = false → M' = bitB t) ∧
      Ev (fun k => spec_Loops.l3 k tab (tI ds) L (t : Int) (if c then M else 0#64).toInt (pre.length : Int)) (tab, tI ds, L, (t : Int), (if c' then M' else 0#64).toInt) ∧
      Ev (fun k => impl_Loops.l3 k ⟨p, hs⟩ (tI ds) L (prs m h t) (f : Int) (t : Int) M.toInt c a9 a10 ((prs m h t).length : Int) (pre.length : Int)) (⟨p, hs⟩, tI ds, L, (f : Int), (t : Int), M'.toInt, c', a9, a10)
  | [], pre, M, c, e, h1, h2 => by
    have hrow := H.tab_.row t ht
    have el : pre.length = (prs m h t).length := by rw [← e]; simp
    refine ⟨M, c, h1, h2, ?_, ?_⟩
    · refine Ev.succ ?_
      simp only [spec_Loops.l3]
      refine Ev.idx hrow (Ev.cf (df (by show ¬ (pre.length : Int) < ((prs m h t).length : Int); omega)) ?_)
      rw [Int.toNat_natCast, set_same hrow]
      exact Ev.pure
    · refine Ev.succ ?_
      simp only [impl_Loops.l3]
      exact Ev.cf (df (by omega)) Ev.pure
  | q :: ns, pre, M, c, e, h1, h2 => by
    have hc := H.fn.code
    have hrow : tab[t]? = some (prs m h t) := H.tab_.row t ht
    have hmid : (prs m h t)[pre.length]? = some q := by rw [← e]; exact at_mid pre q ns
    have hlen : (prs m h t).length = pre.length + 1 + ns.length := by rw [← e]; simp; omega
    have hshort : (prs m h t).length ≤ 60 := H.pr.short t
    have plen : ((pre.length + 1 : Nat) : Int) = ((pre ++ [q]).length : Int) := by simp
    obtain ⟨n, rfl, hn⟩ := H.pr.mem t q (by rw [← e]; simp)
    have hlv : live h t = true := H.goes t ht (by rw [← e]; simp)
    have hds := H.inv.size
    obtain ⟨v, hv⟩ := list_get (show n < ds.length by omega)
    obtain ⟨w, hw⟩ := list_get (show t < ds.length by omega)
    have hown : w.getLsbD t = true := by have := H.inv.own t ht hlv; rwa [at0_of hw] at this
    have hw0 : (w.toInt != 0) = true := by
      rw [show (0 : Int) = (0#64 : B).toInt from by decide, toInt_ne]
      exact bne_iff_ne.2 fun e => by rw [e] at hown; simp at hown
    have hor : ((if c then M else 0#64) ||| bitB t) = M := by
      cases c with
      | false => rw [h2 rfl]; simp
      | true =>
        apply BitVec.eq_of_getLsbD_eq
        intro i hi
        simp only [if_true]
        rw [or_bit (by omega)]
        by_cases e : i = t
        · subst e; simp [h1]
        · simp [e]
    have e' : (pre ++ [(n : Int)]) ++ ns = prs m h t := by rw [← e]; simp
    have hset : tab.set ((t : Int)).toNat (prs m h t) = tab := by rw [Int.toNat_natCast, set_same hrow]
    cases hb : v.getLsbD t with
    | true =>
      obtain ⟨R, r1, r2, r3⟩ := body_both H (t : Int) M hn
      obtain ⟨M', c', g1, g2, g3, g4⟩ := edges_both H ht L a9 a10 ns (pre ++ [(n : Int)]) R true e' (r3 t h1) (fun h => by cases h)
      refine ⟨M', c', g1, g2, ?_, ?_⟩
      · refine Ev.succ ?_
        simp only [spec_Loops.l3]
        refine Ev.idx hrow (Ev.ct (dt (by omega)) (Ev.idx hmid (Ev.idx (tI_get hw) (Ev.ct hw0 (Ev.idx (tI_get hv) (Ev.bind (Ev.const (bit_ev t (by omega))) ?_))))))
        rw [test_ne _ _ (by omega), hset, wrap_nat (by omega), plen]
        refine Ev.ct hb (Ev.bind (Ev.const (bit_ev t (by omega))) ?_)
        rw [ior_t, hor]
        exact Ev.bind r1 g3
      · refine Ev.succ ?_
        simp only [impl_Loops.l3]
        refine Ev.ct (dt (by omega)) (Ev.idx hmid (Ev.idx (tI_get hv) (Ev.gd (by omega) ?_)))
        rw [test_t _ _ (by omega), hb, wrap_nat (by omega), plen]
        exact Ev.ct (by simp) (Ev.bind r2 g4)
    | false =>
      obtain ⟨M', c', g1, g2, g3, g4⟩ := edges_both H ht L a9 a10 ns (pre ++ [(n : Int)]) M c e' h1 h2
      refine ⟨M', c', g1, g2, ?_, ?_⟩
      · refine Ev.succ ?_
        simp only [spec_Loops.l3]
        refine Ev.idx hrow (Ev.ct (dt (by omega)) (Ev.idx hmid (Ev.idx (tI_get hw) (Ev.ct hw0 (Ev.idx (tI_get hv) (Ev.bind (Ev.const (bit_ev t (by omega))) ?_))))))
        rw [test_ne _ _ (by omega), hset, wrap_nat (by omega), plen]
        exact Ev.cf hb g3
      · refine Ev.succ ?_
        simp only [impl_Loops.l3]
        refine Ev.ct (dt (by omega)) (Ev.idx hmid (Ev.idx (tI_get hv) (Ev.gd (by omega) ?_)))
        rw [test_t _ _ (by omega), hb, wrap_nat (by omega), plen]
        exact Ev.cf (by simp) g4
def LpOk (K : Nat) (l : GI3) : Prop := ∃ (n : Nat) (v : B) (c : Nat), l = ⟨(n : Int), v.toInt, (c : Int)⟩ ∧ n < 60 ∧ c ≤ K
theorem heads_both {p : GProgram} {hs : List (List Int)} {f : Nat} {m : GFunc} {h : List Int} {tab : List (List Int)} {ds : List B} (H : Hand p hs f m h tab ds) :
    ∀ (d t : Nat) (L : List GI3), m.code.length - t = d → t ≤ m.code.length → L.length ≤ t → (∀ l ∈ L, LpOk 0 l) →
    ∃ L', Ev (fun k => spec_Loops.l1 k tab (tI ds) L (t : Int)) L' ∧ Ev (fun k => impl_Loops.l1 k ⟨p, hs⟩ (tI ds) (f : Int) L (m.code.length : Int) (t : Int)) L' ∧ L'.length ≤ 60 ∧ ∀ l ∈ L', LpOk 0 l
  | 0, t, L, hd, ht, hL, hok => by
    have hc := H.fn.code
    have hds := H.inv.size
    refine ⟨L, ?_, ?_, by omega, hok⟩
    · refine Ev.succ ?_
      simp only [spec_Loops.l1]
      exact Ev.cf (df (by simp [tI]; omega)) Ev.pure
    · refine Ev.succ ?_
      simp only [impl_Loops.l1]
      exact Ev.cf (df (by omega)) Ev.pure
  | d + 1, t, L, hd, ht, hL, hok => by
    have hc := H.fn.code
    have hds := H.inv.size
    have htl : t < m.code.length := by omega
    obtain ⟨M', c', g1, g2, g3, g4⟩ := edges_both H htl L (m.code.length : Int) (t : Int) (prs m h t) [] (bitB t) false rfl (by rw [bitB_get _ _ (by omega)]; simp) (fun _ => rfl)
    have z0 : (0#64 : B).toInt = 0 := by decide
    simp only [List.length_nil, Bool.false_eq_true, if_false, z0] at g3 g4
    have hne : ((if c' then M' else 0#64 : B).toInt != 0) = c' := by
      rw [show (0 : Int) = (0#64 : B).toInt from by decide, toInt_ne]
      cases c' with
      | false => simp
      | true =>
        simp only [if_true]
        exact bne_iff_ne.2 fun e => by rw [e] at g1; simp at g1
    have hs2 : Ev (fun k => spec_Loops.a2 k tab (tI ds) L (t : Int)) (tab, tI ds, (if c' then L ++ [⟨(t : Int), M'.toInt, 0⟩] else L), (t : Int)) := by
      unfold spec_Loops.a2
      refine Ev.bind g3 ?_
      simp only []
      rw [hne]
      cases c' with
      | false => exact Ev.cf rfl Ev.pure
      | true => exact Ev.ct rfl (Ev.gd ⟨by omega, by omega⟩ Ev.pure)
    have hi2 : Ev (fun k => impl_Loops.a2 k ⟨p, hs⟩ (tI ds) L (f : Int) (m.code.length : Int) (t : Int)) (⟨p, hs⟩, tI ds, (f : Int), (if c' then L ++ [⟨(t : Int), M'.toInt, 0⟩] else L), (m.code.length : Int), (t : Int)) := by
      unfold impl_Loops.a2
      refine Ev.gd (by omega) (Ev.bind (implPreds H.fn.at_ H.hts H.fn.size hc.2 (t : Int)) ?_)
      rw [ishl_t t (by omega)]
      refine Ev.bind g4 ?_
      simp only []
      cases c' with
      | false => exact Ev.cf rfl Ev.pure
      | true => exact Ev.ct rfl (Ev.gd ⟨by omega, by omega⟩ Ev.pure)
    obtain ⟨L', k1, k2, k3, k4⟩ := heads_both H d (t + 1) (if c' then L ++ [⟨(t : Int), M'.toInt, 0⟩] else L) (by omega) (by omega) (by cases c' <;> simp <;> omega) (by
      intro l hl
      split at hl
      · rw [List.mem_append, List.mem_singleton] at hl
        rcases hl with hl | rfl
        · exact hok l hl
        · exact ⟨t, M', 0, rfl, by omega, Nat.le_refl _⟩
      · exact hok l hl)
    refine ⟨L', ?_, ?_, k3, k4⟩
    · refine Ev.succ ?_
      simp only [spec_Loops.l1]
      refine Ev.ct (dt (by simp [tI]; omega)) (Ev.bind hs2 ?_)
      simp only []
      rw [wrap_nat (by omega)]
      exact k1
    · refine Ev.succ ?_
      simp only [impl_Loops.l1]
      refine Ev.ct (dt (by omega)) (Ev.bind hi2 ?_)
      simp only []
      rw [wrap_nat (by omega)]
      exact k2
theorem deep_both {i : Nat} (a3 a4 : Int) : ∀ (d j : Nat) (L : List GI3) (K : Nat), L.length - j = d → j ≤ L.length → i < L.length → L.length ≤ 60 → K + d ≤ 10000 → (∀ l ∈ L, LpOk K l) →
    ∃ L', Ev (fun k => spec_Loops.l5 k L (i : Int) (j : Int)) (L', (i : Int)) ∧ Ev (fun k => impl_Loops.l5 k L (i : Int) a3 a4 (L.length : Int) (j : Int)) (L', a3, a4) ∧ L'.length = L.length ∧ ∀ l ∈ L', LpOk (K + d) l
  | 0, j, L, K, hd, hj, hi, hL, hK, hok => by
    refine ⟨L, ?_, ?_, rfl, hok⟩
    · refine Ev.succ ?_
      simp only [spec_Loops.l5]
      exact Ev.cf (df (by omega)) Ev.pure
    · refine Ev.succ ?_
      simp only [impl_Loops.l5]
      exact Ev.cf (df (by omega)) Ev.pure
  | d + 1, j, L, K, hd, hj, hi, hL, hK, hok => by
    obtain ⟨x, hx⟩ := list_get (show j < L.length by omega)
    obtain ⟨y, hy⟩ := list_get hi
    obtain ⟨n1, v, c1, rfl, q1, q2⟩ := hok x (List.mem_of_getElem? hx)
    obtain ⟨n, w, c, rfl, q3, q4⟩ := hok y (List.mem_of_getElem? hy)
    cases hb : v.getLsbD n with
    | true =>
      obtain ⟨L', k1, k2, k3, k4⟩ := deep_both a3 a4 d (j + 1) (L.set i ⟨(n : Int), w.toInt, ((c + 1 : Nat) : Int)⟩) (K + 1) (by simp; omega) (by simp; omega) (by simpa using hi) (by simpa using hL) (by omega) (by
        intro l hl
        rcases List.mem_or_eq_of_mem_set hl with hl | rfl
        · obtain ⟨a, b, e, g1, g2, g3⟩ := hok l hl
          exact ⟨a, b, e, g1, g2, by omega⟩
        · exact ⟨n, w, c + 1, rfl, q3, by omega⟩)
      refine ⟨L', ?_, ?_, by simpa using k3, fun l hl => by have := k4 l hl; rwa [show K + 1 + d = K + (d + 1) by omega] at this⟩
      · refine Ev.succ ?_
        simp only [spec_Loops.l5]
        refine Ev.ct (dt (by omega)) (Ev.idx hx (Ev.idx hy (Ev.bind (Ev.const (bit_ev n (by omega))) ?_)))
        rw [test_ne _ _ (by omega)]
        refine Ev.ct hb ?_
        rw [wrap_nat (by omega), wrap_nat (by omega), Int.toNat_natCast]
        exact k1
      · refine Ev.succ ?_
        simp only [impl_Loops.l5]
        refine Ev.ct (dt (by omega)) (Ev.idx hx (Ev.idx hy (Ev.gd (by simp only []; omega) ?_)))
        rw [test_t _ _ (by omega), hb]
        simp only [if_true]
        rw [wrap_nat (by omega), wrap_nat (by omega), Int.toNat_natCast]
        simpa only [List.length_set] using k2
    | false =>
      obtain ⟨L', k1, k2, k3, k4⟩ := deep_both a3 a4 d (j + 1) L (K + 1) (by omega) (by omega) hi hL (by omega) (by
        intro l hl
        obtain ⟨a, b, e, g1, g2, g3⟩ := hok l hl
        exact ⟨a, b, e, g1, g2, by omega⟩)
      refine ⟨L', ?_, ?_, k3, fun l hl => by have := k4 l hl; rwa [show K + 1 + d = K + (d + 1) by omega] at this⟩
      · refine Ev.succ ?_
        simp only [spec_Loops.l5]
        refine Ev.ct (dt (by omega)) (Ev.idx hx (Ev.idx hy (Ev.bind (Ev.const (bit_ev n (by omega))) ?_)))
        rw [test_ne _ _ (by omega)]
        refine Ev.cf hb ?_
        rw [wrap_nat (by omega)]
        exact k1
      · refine Ev.succ ?_
        simp only [impl_Loops.l5]
        refine Ev.ct (dt (by omega)) (Ev.idx hx (Ev.idx hy (Ev.gd (by simp only []; omega) ?_)))
        rw [test_t _ _ (by omega), hb]
        simp only [Bool.false_eq_true, if_false, Int.add_zero]
        rw [wrap_nat (by omega), Int.toNat_natCast, wrap_id (by omega) (by omega), set_same hy]
        exact k2
theorem depths_both : ∀ (d i : Nat) (L : List GI3) (K : Nat), L.length - i = d → i ≤ L.length → L.length ≤ 60 → K + 60 * d ≤ 10000 → (∀ l ∈ L, LpOk K l) →
    ∃ L', Ev (fun k => spec_Loops.l4 k L (i : Int)) L' ∧ Ev (fun k => impl_Loops.l4 k L (L.length : Int) (i : Int)) L' ∧ L'.length ≤ 60
  | 0, i, L, K, hd, hi, hL, hK, hok => by
    refine ⟨L, ?_, ?_, hL⟩
    · refine Ev.succ ?_
      simp only [spec_Loops.l4]
      exact Ev.cf (df (by omega)) Ev.pure
    · refine Ev.succ ?_
      simp only [impl_Loops.l4]
      exact Ev.cf (df (by omega)) Ev.pure
  | d + 1, i, L, K, hd, hi, hL, hK, hok => by
    obtain ⟨L1, k1, k2, k3, k4⟩ := deep_both (i := i) (L.length : Int) (i : Int) L.length 0 L K (by omega) (by omega) (by omega) hL (by omega) hok
    obtain ⟨L', g1, g2, g3⟩ := depths_both d (i + 1) L1 (K + L.length) (by omega) (by omega) (by omega) (by omega) k4
    refine ⟨L', ?_, ?_, g3⟩
    · refine Ev.succ ?_
      simp only [spec_Loops.l4]
      refine Ev.ct (dt (by omega)) (Ev.bind k1 ?_)
      simp only []
      rw [wrap_nat (by omega)]
      exact g1
    · refine Ev.succ ?_
      simp only [impl_Loops.l4]
      refine Ev.ct (dt (by omega)) (Ev.bind k2 ?_)
      simp only []
      rw [wrap_nat (by omega)]
      rw [k3] at g2
      exact g2
theorem loops_both {p : GProgram} (ha : Args64 p) (hn : p.funcs.length ≤ 1048576) (f : Int) : ∃ l, Ev (fun k => impl_Loops k p f) l ∧ Ev (fun k => spec_Loops k p f) l ∧ l.length ≤ 60 := by
  obtain ⟨hs, ok, k1, k2, k3⟩ := knownFunc_ev ha hn f
  obtain ⟨ok2, s1, s2⟩ := specIs_ev ha hn f
  by_cases c : RightP p ∧ 0 ≤ f ∧ f < (p.funcs.length : Int)
  · have e1 : ok = true := k2.2 c
    have e2 : ok2 = true := s2.2 c
    subst e1 e2
    obtain ⟨hp, hf0, hf1⟩ := c
    obtain ⟨n, rfl⟩ := Int.eq_ofNat_of_zero_le hf0
    obtain ⟨m, hm⟩ := list_get (show n < p.funcs.length by omega)
    have hmem := List.mem_of_getElem? hm
    have hform := (hp.all m hmem).1
    have hc := hform.code
    obtain ⟨h, hh, hr, hl⟩ := (k3 hp).at_ n m hm
    have hF : Fn p n m h := ⟨hm, hl, hc⟩
    obtain ⟨o, o1, o2⟩ := rounds_ex (by omega) hc.1 _ _ rfl (start_inv hF)
    obtain ⟨out, t1, t2⟩ := specPredsTab ha hp hm hr hl
    obtain ⟨hpast, -, -⟩ := heights_past hp hmem hr
    have H : Hand p hs n m h out o := by
      refine ⟨hF, hh, t2, o2, fun t ht hne => ?_⟩
      obtain ⟨q, hq⟩ := List.exists_mem_of_ne_nil _ hne
      obtain ⟨x, hx, -, hhit⟩ := predsUp_mem hq
      unfold hit at hhit
      split at hhit
      · rename_i i y hi hy
        rw [Bool.and_eq_true] at hhit
        have hy0 : 0 ≤ y := by simpa using hhit.1
        have hmem2 : (t : Int) ∈ nextL i (x : Int) := by simpa using hhit.2
        have hP := hpast x i y hi hy hy0
        have hnt := (hP.2.2 (t : Int) hmem2).2
        rw [Int.toNat_natCast] at hnt
        rw [live_of hnt]
        have hpu := putsL_range i
        have := hP.1
        exact dt (by omega)
      · cases hhit
    obtain ⟨L1, h1, h2, h3, h4⟩ := heads_both H _ 0 [] rfl (by omega) (by simp) (fun l hl => by cases hl)
    obtain ⟨L2, g1, g2, g3⟩ := depths_both _ 0 L1 0 rfl (by omega) h3 (by omega) h4
    refine ⟨L2, ?_, ?_, g3⟩
    · have hcode : impl_prog_code_v0 ⟨p, hs⟩ ((n : Nat) : Int) = some (m.code, ⟨p, hs⟩) := by
        unfold impl_prog_code_v0
        rw [idx_nat]
        simp only [hm, Option.bind_some, Int.toNat_natCast, set_same hm]
      unfold impl_Loops
      exact Ev.bind k1 (Ev.cf rfl (Ev.bind (implDoms hF hh o1) (Ev.bind (Ev.const hcode) (Ev.bind h2 (Ev.bind g2 Ev.pure)))))
    · unfold spec_Loops
      exact Ev.bind s1 (Ev.cf rfl (Ev.bind t1 (Ev.bind (specDoms ha hp hF hr o1) (Ev.bind h1 (Ev.bind g1 Ev.pure)))))
  · have e1 : ok = false := by cases ok with | false => rfl | true => exact absurd (k2.1 rfl) c
    have e2 : ok2 = false := by cases ok2 with | false => rfl | true => exact absurd (s2.1 rfl) c
    subst e1 e2
    refine ⟨[], ?_, ?_, by simp⟩
    · unfold impl_Loops
      exact Ev.bind k1 (Ev.ct rfl Ev.pure)
    · unfold spec_Loops
      exact Ev.bind s1 (Ev.ct rfl Ev.pure)
end Go.Proofs.Ytdlaplgofgklnaa
namespace Go.Proofs.Ytdlaplgofgklnaa
open Go.Proofs Go.Proofs.Ytdlaplgofgklnaa.L
set_option linter.unusedVariables false
set_option linter.unusedSimpArgs false
set_option maxRecDepth 100000
def Ok {α : Type} (f : Nat → Option α) (P : α → Prop) : Prop := ∃ r, Ev f r ∧ P r
section
variable {α β γ : Type} {P : β → Prop} {Q : α → Prop}
theorem Ok.pure {v : β} (h : P v) : Ok (fun _ => some v) P := ⟨v, Ev.pure, h⟩
theorem Ok.mono {f : Nat → Option β} {R : β → Prop} (h : Ok f R) (hm : ∀ r, R r → P r) : Ok f P := by
  obtain ⟨r, h1, h2⟩ := h; exact ⟨r, h1, hm r h2⟩
theorem Ok.bind {f : Nat → Option α} {g : Nat → α → Option β} (h : Ok f Q) (h2 : ∀ a, Q a → Ok (fun k => g k a) P) : Ok (fun k => (f k).bind (g k)) P := by
  obtain ⟨a, e, q⟩ := h
  obtain ⟨b, e2, p⟩ := h2 a q
  exact ⟨b, Ev.bind e e2, p⟩
theorem Ok.cond {b : Bool} {f g : Nat → Option β} (h1 : b = true → Ok f P) (h2 : b = false → Ok g P) : Ok (fun k => cond b (f k) (g k)) P := by
  cases b with
  | true => exact h1 rfl
  | false => exact h2 rfl
theorem Ok.gd {p : Prop} [Decidable p] {f : Nat → Option β} (hp : p) (h : Ok f P) : Ok (fun k => L.gd p (f k)) P := by
  obtain ⟨r, e, q⟩ := h; exact ⟨r, Ev.gd hp e, q⟩
theorem Ok.idx {l : List α} {i : Int} {g : Nat → α → Option β} (h0 : 0 ≤ i) (h1 : i < (l.length : Int)) (h : ∀ m, l[i.toNat]? = some m → Ok (fun k => g k m) P) : Ok (fun k => (L.idx l i).bind (g k)) P := by
  obtain ⟨m, hm⟩ := list_get (show i.toNat < l.length by omega)
  obtain ⟨r, e, q⟩ := h m hm
  refine ⟨r, Ev.bind (a := m) (Ev.const ?_) e, q⟩
  rw [idx_of h0, hm]
theorem Ok.succ {f : Nat → Option β} (h : Ok (fun k => f (k + 1)) P) : Ok f P := by
  obtain ⟨r, e, q⟩ := h; exact ⟨r, Ev.succ e, q⟩
theorem Ok.shift {f : Nat → Option β} (h : Ok f P) : Ok (fun k => f (k + 1)) P := by
  obtain ⟨r, ⟨k0, e⟩, q⟩ := h; exact ⟨r, ⟨k0, fun k hk => e (k + 1) (by omega)⟩, q⟩
theorem Ok.const {x : Option β} {v : β} (h : x = some v) (hp : P v) : Ok (fun _ => x) P := ⟨v, Ev.const h, hp⟩
end
theorem u64_eq (x : Int) : IntKind.u64.wrap x = x % 18446744073709551616 := by
  have : (2 : Int) ^ 64 = 18446744073709551616 := by decide
  simp [IntKind.wrap, IntKind.bits, IntKind.signed, this]
theorem u64_pos (x : Int) : 0 ≤ IntKind.u64.wrap x := by rw [u64_eq]; omega
theorem u64_id {x : Int} (h0 : 0 ≤ x) (h1 : x < 18446744073709551616) : IntKind.u64.wrap x = x := by rw [u64_eq]; omega
structure SOk (s : Gl01Src) : Prop where
  at0 : 0 ≤ s.at0 ∧ s.at0 ≤ (s.b.length : Int)
  len : s.b.length ≤ 1048576
  size : 0 ≤ s.size ∧ s.size ≤ 12
theorem n_ok {s : Gl01Src} (hs : SOk s) (most : Int) (hm : most < 4611686018427387904) :
    Ok (fun k => spec_l01Src_n k s most) (fun r => SOk r.2 ∧ 0 ≤ r.1 ∧ (most ≤ 1 ∧ r.1 = 0 ∨ 1 < most ∧ r.1 < most)) := by
  unfold spec_l01Src_n
  refine Ok.cond (fun h => ?_) (fun h => ?_)
  · simp only [decide_eq_true_eq] at h
    exact Ok.pure ⟨hs, by simp, .inl ⟨h, rfl⟩⟩
  · simp only [decide_eq_false_iff_not] at h
    refine Ok.bind (Q := fun o => o.2.1 = most ∧ SOk o.1) ?_ ?_
    · unfold spec_l01Src_n.a1
      refine Ok.cond (fun h => ?_) (fun h => Ok.pure ⟨rfl, hs⟩)
      simp only [decide_eq_true_eq] at h
      have h0 := hs.at0
      have hl := hs.len
      refine Ok.idx h0.1 h (fun m hm => Ok.pure ⟨rfl, ?_, hl, hs.size⟩)
      show 0 ≤ IntKind.i64.wrap (s.at0 + 1) ∧ IntKind.i64.wrap (s.at0 + 1) ≤ (s.b.length : Int)
      rw [wrap_id (by omega) (by omega)]
      omega
    · rintro ⟨s', m, v⟩ ⟨h1, h2⟩
      have h1 : m = most := h1
      subst h1
      have e : IntKind.u64.wrap m = m := u64_id (by omega) (by omega)
      simp only [e]
      refine Ok.gd (by omega) (Ok.pure ⟨⟨h2.at0, h2.len, h2.size⟩, ?_⟩)
      generalize hz : IntKind.u64.wrap _ = z
      have hz0 : 0 ≤ z := hz ▸ u64_pos _
      have h3 : 0 ≤ z.tmod m := Int.tmod_nonneg m hz0
      have h4 : z.tmod m < m := Int.tmod_lt_of_pos z (by omega)
      simp only []
      rw [wrap_id (by omega) (by omega)]
      exact ⟨h3, .inr ⟨by omega, h4⟩⟩
theorem one_ok {s : Gl01Src} (hs : SOk s) (of_ : Int) (hm : of_ < 4611686018427387904) : Ok (fun k => spec_l01Src_one k s of_) (fun r => SOk r.2) := by
  unfold spec_l01Src_one
  exact Ok.bind (n_ok hs of_ hm) fun r h => Ok.pure h.1
theorem edge_ok {s : Gl01Src} (hs : SOk s) : Ok (fun k => spec_l01Src_edge k s) (fun r => SOk r.2 ∧ L.i64 r.1) := by
  unfold spec_l01Src_edge
  refine Ok.bind (n_ok hs 14 (by omega)) fun r h => Ok.idx h.2.1 (by simp; omega) fun m hm => Ok.pure ⟨h.1, ?_⟩
  have h0 := h.2.1
  have h1 : r.1.toNat < 14 := by omega
  generalize r.1.toNat = q at hm h1
  have : q = 0 ∨ q = 1 ∨ q = 2 ∨ q = 3 ∨ q = 4 ∨ q = 5 ∨ q = 6 ∨ q = 7 ∨ q = 8 ∨ q = 9 ∨ q = 10 ∨ q = 11 ∨ q = 12 ∨ q = 13 := by omega
  rcases this with rfl | rfl | rfl | rfl | rfl | rfl | rfl | rfl | rfl | rfl | rfl | rfl | rfl | rfl <;> (simp at hm; subst hm; simp [L.i64])
theorem num_ok {s : Gl01Src} (hs : SOk s) : Ok (fun k => spec_l01Src_l02Num k s) (fun r => SOk r.2) := by
  unfold spec_l01Src_l02Num
  refine Ok.bind (n_ok hs 5 (by omega)) fun r h => ?_
  refine Ok.cond (fun _ => Ok.bind (edge_ok h.1) fun r h => Ok.pure h.1) fun _ => ?_
  refine Ok.cond (fun _ => Ok.bind (n_ok h.1 9 (by omega)) fun r h => Ok.pure h.1) fun _ => ?_
  refine Ok.cond (fun _ => Ok.bind (n_ok h.1 10 (by omega)) fun r h => Ok.idx h.2.1 (by simp; omega) fun m hm => Ok.pure h.1) fun _ => ?_
  exact Ok.bind (n_ok h.1 1099511627776 (by omega)) fun r h => Ok.pure h.1
structure GOk (A : List Int) (g : Gl03Gen) : Prop where
  args : g.args = A
  src : SOk g.s
  loc : 0 ≤ g.locals ∧ g.locals ≤ 8
structure AOk (A : List Int) : Prop where
  len : 1 ≤ A.length ∧ A.length ≤ 3
  all : ∀ a ∈ A, 0 ≤ a ∧ a ≤ 2
theorem GOk.with_ {A : List Int} {g : Gl03Gen} (h : GOk A g) {s : Gl01Src} (hs : SOk s) : GOk A ⟨s, g.args, g.locals, g.code, g.most⟩ := ⟨h.args, hs, h.loc⟩
structure Gr (A : List Int) (g : Gl03Gen) (n : Nat) (r : Gl03Gen) : Prop where
  ok : GOk A r
  ge : g.code.length ≤ r.code.length
  le : r.code.length ≤ g.code.length + n
theorem put_ok {A : List Int} {g : Gl03Gen} (h : GOk A g) (hN : g.code.length < 1000000) (op a : Int) : Ok (fun _ => spec_l03Gen_put g op a) (fun r => GOk A r.2 ∧ r.1 = (g.code.length : Int) ∧ r.2.code.length = g.code.length + 1) := by
  unfold spec_l03Gen_put
  refine Ok.gd ⟨by omega, by omega⟩ (Ok.pure ⟨⟨h.args, h.src, h.loc⟩, ?_, by simp⟩)
  simp only [List.length_append, List.length_cons, List.length_nil]
  rw [wrap_id (by omega) (by omega)]
  omega
theorem local_ok {A : List Int} {g : Gl03Gen} (h : GOk A g) : Ok (fun k => spec_l03Gen_local k g) (fun r => GOk A r.2 ∧ r.2.code = g.code) := by
  unfold spec_l03Gen_local
  have := h.loc
  exact Ok.bind (n_ok h.src g.locals (by omega)) fun r h2 => Ok.pure ⟨h.with_ h2.1, rfl⟩
theorem here_ok {A : List Int} {g : Gl03Gen} (h : GOk A g) (p : Int) (h0 : 0 ≤ p) (h1 : p < (g.code.length : Int)) : Ok (fun _ => spec_l03Gen_here g p) (fun r => GOk A r ∧ r.code.length = g.code.length) := by
  unfold spec_l03Gen_here
  exact Ok.idx h0 h1 fun m hm => Ok.pure ⟨⟨h.args, h.src, h.loc⟩, by simp⟩
theorem expr1_ok {A : List Int} (hA : AOk A) (rec : Nat → Gl03Gen → Int → Option Gl03Gen) {g : Gl03Gen} (h : GOk A g) (hN : g.code.length < 1000000) (deep : Int) :
    Ok (fun k => spec_l03Gen_expr.a1 (rec k) k g deep) (fun o => (∃ r, o = .inl r ∧ Gr A g 1 r) ∨ (∃ r, o = .inr (r, deep) ∧ 0 < deep ∧ GOk A r ∧ r.code = g.code)) := by
  unfold spec_l03Gen_expr.a1
  refine Ok.bind (Q := fun o => GOk A o.1 ∧ o.1.code = g.code ∧ o.2.1 = deep ∧ (deep ≤ 0 → o.2.2 = true)) ?_ ?_
  · unfold spec_l03Gen_expr.a2
    refine Ok.cond (fun hd => Ok.pure ⟨h, rfl, rfl, fun _ => rfl⟩) fun hd => ?_
    simp only [decide_eq_false_iff_not] at hd
    refine Ok.bind (Q := fun r => r.2 = g) (Ok.const rfl rfl) ?_
    rintro ⟨b, g'⟩ rfl
    refine Ok.gd rfl (Ok.cond (fun _ => Ok.pure ⟨h, rfl, rfl, fun _ => rfl⟩) fun _ => ?_)
    exact Ok.bind (one_ok h.src 3 (by omega)) fun r h2 => Ok.pure ⟨h.with_ h2, rfl, rfl, fun e => absurd e hd⟩
  · rintro ⟨g1, d, b⟩ ⟨h1, h2, rfl, h3⟩
    refine Ok.gd (congrArg List.length (h1.args.trans h.args.symm)) (Ok.cond (fun hb => ?_) (fun hb => ?_))
    · refine Ok.bind (Q := fun o => (∃ r, o = .inl r ∧ Gr A g 1 r) ∨ (∃ r, o = .inr r ∧ GOk A r ∧ r.code = g.code)) ?_ ?_
      · unfold spec_l03Gen_expr.a3
        refine Ok.cond (fun hl => ?_) (fun hl => Ok.pure (.inr ⟨g1, rfl, h1, h2⟩))
        refine Ok.bind (one_ok h1.src 2 (by omega)) fun r h4 => ?_
        refine Ok.cond (fun _ => ?_) (fun _ => Ok.pure (.inr ⟨_, rfl, h1.with_ h4, h2⟩))
        refine Ok.bind (local_ok (h1.with_ h4)) ?_
        rintro ⟨z, g2⟩ ⟨h5, h6⟩
        have h6' : g2.code = g.code := h6.trans h2
        refine Ok.gd (by rw [h5.args, h1.args]) (Ok.bind (put_ok h5 (by rw [h6']; exact hN) 2 z) ?_)
        rintro ⟨q, g3⟩ ⟨h7, h8, h9⟩
        refine Ok.gd (by rw [h7.args, h1.args]) (Ok.pure (.inl ⟨g3, rfl, h7, ?_, ?_⟩))
        · rw [h6'] at h9; simp only [] at h9; omega
        · rw [h6'] at h9; simp only [] at h9; omega
      · rintro o (⟨r, rfl, h4⟩ | ⟨r, rfl, h4, h5⟩)
        · exact Ok.pure (.inl ⟨r, rfl, h4⟩)
        · refine Ok.gd (congrArg List.length (h4.args.trans h.args.symm)) ?_
          refine Ok.bind (n_ok h4.src 7 (by omega)) fun t6 h6 => Ok.bind (one_ok h6.1 8 (by omega)) fun t7 h7 => ?_
          refine Ok.cond (fun _ => ?_) (fun _ => ?_)
          · refine Ok.bind (num_ok h7) fun t8 h8 => Ok.bind (put_ok (h4.with_ h8) (by rw [h5]; exact hN) 1 t8.1) ?_
            rintro ⟨q, g3⟩ ⟨e1, e2, e3⟩
            simp only [h5] at e3
            exact Ok.gd (congrArg List.length (e1.args.trans h.args.symm)) (Ok.pure (.inl ⟨g3, rfl, e1, by omega, by omega⟩))
          · refine Ok.bind (put_ok (h4.with_ h7) (by rw [h5]; exact hN) 1 _) ?_
            rintro ⟨q, g3⟩ ⟨e1, e2, e3⟩
            simp only [h5] at e3
            exact Ok.gd (congrArg List.length (e1.args.trans h.args.symm)) (Ok.pure (.inl ⟨g3, rfl, e1, by omega, by omega⟩))
    · refine Ok.pure (.inr ⟨g1, rfl, ?_, h1, h2⟩)
      rcases Int.lt_or_le 0 d with hlt | hle
      · exact hlt
      · have h3' : b = true := h3 hle
        have hb' : b = false := hb
        rw [h3'] at hb'
        cases hb'
def eSize : Nat → Nat
  | 0 => 1
  | d + 1 => 2 * eSize d + 2
theorem eSize_pos : ∀ d, 1 ≤ eSize d
  | 0 => Nat.le_refl _
  | d + 1 => by simp only [eSize]; omega
theorem exprCall_ok {A : List Int} {E : Nat} {deep : Int} (f : Int) : ∀ (c : Nat) (hc : c ≤ 10) (R : Nat → Gl03Gen → Int → Option Gl03Gen)
    (hR : ∀ g, GOk A g → g.code.length + 3 * E < 900000 → Ok (fun k => R k g (IntKind.i64.wrap (deep - 2))) (Gr A g E)) (g : Gl03Gen) (h : GOk A g) (hN : g.code.length + c * E + 3 * E < 900000),
    Ok (fun k => spec_l03Gen_expr.l4 (R k) k g deep f (c : Int)) (fun r => Gr A g (c * E) r.1 ∧ r.2 = f)
  | 0, hc, R, hR, g, h, hN => by
    refine ⟨(g, f), ⟨1, fun k hk => ?_⟩, ⟨h, Nat.le_refl _, by simp⟩, rfl⟩
    obtain ⟨m, rfl⟩ : ∃ m, k = m + 1 := ⟨k - 1, by omega⟩
    simp only [spec_l03Gen_expr.l4]
    rfl
  | c + 1, hc, R, hR, g, h, hN => by
    have e : (c + 1) * E = c * E + E := by rw [Nat.add_mul, Nat.one_mul]
    refine Ok.succ ?_
    simp only [spec_l03Gen_expr.l4]
    refine Ok.cond (fun _ => ?_) (fun hc => by first | (simp at hc; done) | (simp at hc; omega))
    refine Ok.bind ((hR g h (by omega)).shift) fun g1 h1 => Ok.gd (by rw [h1.ok.args, h.args]) ?_
    have hw : IntKind.i64.wrap (((c + 1 : Nat) : Int) - 1) = (c : Int) := by rw [wrap_id (by omega) (by omega)]; omega
    rw [hw]
    have hge := h1.ge
    have hle := h1.le
    refine (exprCall_ok f c (by omega) (fun k => R (k + 1)) (fun g hg hl => (hR g hg hl).shift) g1 h1.ok (by omega)).mono ?_
    rintro ⟨r, f'⟩ ⟨h2, h3⟩
    exact ⟨⟨h2.ok, by have := h2.ge; simp only [] at this ⊢; omega, by have := h2.le; simp only [] at this ⊢; omega⟩, h3⟩
theorem put_then {β : Type} {P : β → Prop} {A : List Int} {g : Gl03Gen} {F : Nat → Int × Gl03Gen → Option β} (h : GOk A g) (hN : g.code.length < 1000000) {op a : Int}
    (hF : ∀ g2, GOk A g2 → g2.code.length = g.code.length + 1 → Ok (fun k => F k ((g.code.length : Int), g2)) P) : Ok (fun k => (spec_l03Gen_put g op a).bind (F k)) P := by
  refine Ok.bind (put_ok h hN op a) ?_
  rintro ⟨q, g2⟩ ⟨h1, h2, h3⟩
  have h2 : q = _ := h2
  subst h2
  exact hF g2 h1 h3
theorem put_fin {A : List Int} {g0 g : Gl03Gen} {n A0 : Nat} (h : GOk A g) (hN : g.code.length < 1000000) {op a : Int} (hA0 : A0 = A.length) (h1 : g0.code.length ≤ g.code.length) (h2 : g.code.length + 1 ≤ g0.code.length + n) :
    Ok (fun k => (spec_l03Gen_put g op a).bind fun t => L.gd (t.2.args.length = A0) (some t.2)) (Gr A g0 n) :=
  put_then h hN fun g2 e1 e2 => Ok.gd (by rw [hA0]; exact congrArg _ e1.args) (Ok.pure ⟨e1, by simp only []; omega, by simp only []; omega⟩)
theorem expr_ok {A : List Int} (hA : AOk A) : ∀ (d : Nat), d ≤ 20 → ∀ (g : Gl03Gen) (deep : Int), deep ≤ (d : Int) → GOk A g → g.code.length + 3 * eSize d < 900000 → Ok (fun k => spec_l03Gen_expr k g deep) (Gr A g (eSize d)) := by
  intro d
  induction d with
  | zero =>
    intro hd g deep hdeep h hN
    refine Ok.succ ?_
    simp only [spec_l03Gen_expr]
    refine Ok.bind (expr1_ok hA (fun k => spec_l03Gen_expr k) h (by omega) deep) ?_
    rintro o (⟨r, rfl, h1⟩ | ⟨r, rfl, hpos, -⟩)
    · exact Ok.gd (congrArg List.length (h1.ok.args.trans h.args.symm)) (Ok.pure h1)
    · omega
  | succ d ih =>
    intro hd g deep hdeep h hN
    have hE := eSize_pos d
    have hE1 : eSize (d + 1) = 2 * eSize d + 2 := rfl
    rw [hE1] at hN ⊢
    refine Ok.succ ?_
    simp only [spec_l03Gen_expr]
    refine Ok.bind (expr1_ok hA (fun k => spec_l03Gen_expr k) h (by omega) deep) ?_
    rintro o (⟨r, rfl, h1⟩ | ⟨r, rfl, hpos, h2, h3⟩)
    · exact Ok.gd (congrArg List.length (h1.ok.args.trans h.args.symm)) (Ok.pure ⟨h1.ok, h1.ge, by have := h1.le; omega⟩)
    have hlen : r.code.length = g.code.length := by rw [h3]
    have w1 : IntKind.i64.wrap (deep - 1) = deep - 1 := wrap_id (by omega) (by omega)
    have w2 : IntKind.i64.wrap (deep - 2) = deep - 2 := wrap_id (by omega) (by omega)
    have call : ∀ (dd : Int) (g' : Gl03Gen), dd ≤ (d : Int) → GOk A g' → g'.code.length + 3 * eSize d < 900000 → Ok (fun k => spec_l03Gen_expr k g' dd) (Gr A g' (eSize d)) := fun dd g' h1 h2 h3 => ih (by omega) g' dd h1 h2 h3
    simp only [Sum.elim_inr, w1, w2]
    refine Ok.gd (congrArg List.length (h2.args.trans h.args.symm)) ?_
    have rlen : r.args.length = g.args.length := congrArg List.length (h2.args.trans h.args.symm)
    refine Ok.bind (n_ok h2.src 10 (by omega)) fun t11 q11 => ?_
    have k0 : GOk A ⟨t11.2, r.args, r.locals, r.code, r.most⟩ := h2.with_ q11.1
    have aeq : g.args.length = A.length := congrArg _ h.args
    refine Ok.cond (fun _ => ?_) fun _ => ?_
    · refine Ok.bind (call _ _ (by omega) k0 (by simp only []; omega)) fun t12 q12 => Ok.gd (congrArg List.length (q12.ok.args.trans h.args.symm)) ?_
      have := q12.ge
      have := q12.le
      simp only [] at *
      refine Ok.bind (n_ok q12.ok.src 6 (by omega)) fun t13 q13 => put_fin (q12.ok.with_ q13.1) (by simp only []; omega) aeq (by simp only []; omega) (by simp only []; omega)
    refine Ok.cond (fun _ => ?_) fun _ => ?_
    · refine Ok.bind (call _ _ (by omega) k0 (by simp only []; omega)) fun t12 q12 => Ok.gd (congrArg List.length (q12.ok.args.trans h.args.symm)) ?_
      have := q12.ge
      have := q12.le
      simp only [] at *
      refine put_then q12.ok (by omega) fun g3 e1 e2 => Ok.gd (by rw [aeq]; exact congrArg _ e1.args) ?_
      refine Ok.bind (n_ok e1.src 14 (by omega)) fun t13 q13 => put_fin (e1.with_ q13.1) (by simp only []; omega) aeq (by simp only []; omega) (by simp only []; omega)
    refine Ok.cond (fun _ => ?_) fun _ => ?_
    · refine Ok.bind (n_ok q11.1 (g.args.length : Int) (by have := hA.len; omega)) fun t19 q19 => ?_
      have hb : t19.1 < (r.args.length : Int) := by have := hA.len; have := q19.2.2; omega
      refine Ok.idx q19.2.1 hb fun m hm => ?_
      have hmA := hA.all m (by have := List.mem_of_getElem? hm; rwa [h2.args] at this)
      obtain ⟨c, hc⟩ := Int.eq_ofNat_of_zero_le hmA.1
      subst hc
      have hcE : c * eSize d ≤ 2 * eSize d := Nat.mul_le_mul_right _ (by omega)
      refine Ok.bind (exprCall_ok (A := A) (E := eSize d) (deep := deep) t19.1 c (by omega) (fun k => spec_l03Gen_expr k) (fun g' hg hl => by rw [w2]; exact call _ _ (by omega) hg hl) _ (h2.with_ q19.1) (by simp only []; omega)) fun o4 q4 => ?_
      have h4 := q4.1.ge
      have h5 := q4.1.le
      simp only [] at h4 h5
      exact Ok.gd (congrArg List.length (q4.1.ok.args.trans h.args.symm)) (put_fin q4.1.ok (by omega) aeq (by omega) (by omega))
    refine Ok.cond (fun _ => ?_) fun _ => ?_
    · refine Ok.cond (fun _ => ?_) fun _ => ?_
      · refine Ok.bind (local_ok k0) ?_
        rintro ⟨z, g2⟩ ⟨e1, e2⟩
        have e2 : g2.code.length = r.code.length := congrArg _ e2
        refine Ok.gd (by rw [aeq]; exact congrArg _ e1.args) (put_then e1 (by (try dsimp only at *); omega) fun g3 e3 e4 => Ok.gd (by rw [aeq]; exact congrArg _ e3.args) ?_)
        refine Ok.bind (call _ _ (by (try dsimp only at *); omega) e3 (by (try dsimp only at *); omega)) fun t12 q12 => Ok.gd (congrArg List.length (q12.ok.args.trans h.args.symm)) ?_
        have := q12.ge
        have := q12.le
        (try dsimp only at *)
        exact put_fin q12.ok (by (try dsimp only at *); omega) aeq (by (try dsimp only at *); omega) (by (try dsimp only at *); omega)
      · refine Ok.bind (call _ _ (by (try dsimp only at *); omega) k0 (by simp only []; omega)) fun t12 q12 => Ok.gd (congrArg List.length (q12.ok.args.trans h.args.symm)) (Ok.pure ⟨q12.ok, ?_, ?_⟩)
        · have := q12.ge; simp only [] at this; omega
        · have := q12.le; simp only [] at this; omega
    refine Ok.cond (fun _ => ?_) fun _ => ?_
    · refine Ok.bind (n_ok q11.1 5 (by (try dsimp only at *); omega)) fun t28 q28 => ?_
      refine put_then (h2.with_ q28.1) (by simp only []; omega) fun g3 e3 e4 => Ok.gd (by rw [aeq]; exact congrArg _ e3.args) ?_
      simp only [] at e4
      exact put_fin e3 (by (try dsimp only at *); omega) aeq (by (try dsimp only at *); omega) (by (try dsimp only at *); omega)
    refine Ok.cond (fun _ => ?_) fun _ => ?_
    · refine Ok.bind (call _ _ (by (try dsimp only at *); omega) k0 (by simp only []; omega)) fun t12 q12 => Ok.gd (congrArg List.length (q12.ok.args.trans h.args.symm)) ?_
      have := q12.ge
      have := q12.le
      simp only [] at *
      exact put_fin q12.ok (by (try dsimp only at *); omega) aeq (by (try dsimp only at *); omega) (by (try dsimp only at *); omega)
    refine Ok.bind (call _ _ (by (try dsimp only at *); omega) k0 (by simp only []; omega)) fun t33 q33 => Ok.gd (congrArg List.length (q33.ok.args.trans h.args.symm)) ?_
    have a1 := q33.ge
    have a2 := q33.le
    simp only [] at a1 a2
    refine Ok.bind (call _ _ (by (try dsimp only at *); omega) q33.ok (by (try dsimp only at *); omega)) fun t34 q34 => Ok.gd (congrArg List.length (q34.ok.args.trans h.args.symm)) ?_
    have a3 := q34.ge
    have a4 := q34.le
    refine Ok.bind (n_ok q34.ok.src 14 (by (try dsimp only at *); omega)) fun t35 q35 => ?_
    have last : ∀ (s : Gl01Src), SOk s → ∀ op, Ok (fun k => (spec_l03Gen_put ⟨s, t34.args, t34.locals, t34.code, t34.most⟩ op 0).bind fun t => L.gd (t.2.args.length = g.args.length) (some t.2)) (Gr A g (2 * eSize d + 2)) := fun s hs op => put_fin (q34.ok.with_ hs) (by simp only []; omega) aeq (by simp only []; omega) (by simp only []; omega)
    refine Ok.cond (fun _ => ?_) fun _ => ?_
    · exact Ok.bind (one_ok q35.1 4 (by (try dsimp only at *); omega)) fun t36 q36 => Ok.cond (fun _ => last _ q36 _) fun _ => last _ q36 _
    refine Ok.cond (fun _ => ?_) fun _ => ?_
    · exact Ok.bind (one_ok q35.1 4 (by (try dsimp only at *); omega)) fun t36 q36 => Ok.cond (fun _ => last _ q36 _) fun _ => last _ q36 _
    exact last _ q35.1 _
def sSize : Nat → Nat
  | 0 => 60
  | d + 1 => 2 * sSize d + 60
theorem sSize_pos : ∀ d, 60 ≤ sSize d
  | 0 => Nat.le_refl _
  | d + 1 => by simp only [sSize]; omega
theorem ex_ok {A : List Int} (hA : AOk A) (d : Nat) (hd : d ≤ 3) (g : Gl03Gen) (h : GOk A g) (hN : g.code.length < 890000) : Ok (fun k => spec_l03Gen_expr k g (d : Int)) (Gr A g 22) := by
  have e : eSize d ≤ 22 := by
    have : d = 0 ∨ d = 1 ∨ d = 2 ∨ d = 3 := by omega
    rcases this with rfl | rfl | rfl | rfl <;> decide
  exact (expr_ok hA d (by omega) g d (Int.le_refl _) h (by omega)).mono fun r hr => ⟨hr.ok, hr.ge, by have := hr.le; omega⟩
theorem stmt_step {A : List Int} (hA : AOk A) {S : Nat} {g : Gl03Gen} {deep : Int} (call : 0 < deep → ∀ g', GOk A g' → g'.code.length + 6 * S < 700000 → Ok (fun k => spec_l03Gen_stmt k g' (IntKind.i64.wrap (deep - 1))) (Gr A g' S))
    (h : GOk A g) (hN : g.code.length + 12 * S + 360 < 700000) : Ok (fun k => spec_l03Gen_stmt (k + 1) g deep) (Gr A g (2 * S + 60)) := by
  have aeq : g.args.length = A.length := congrArg _ h.args
  simp only [spec_l03Gen_stmt]
  refine Ok.bind (Q := fun r => r.2 = g) (Ok.const rfl rfl) ?_
  rintro ⟨b, g'⟩ h0
  have h0 : g' = g := h0
  subst h0
  refine Ok.gd rfl (Ok.cond (fun _ => Ok.pure ⟨h, Nat.le_refl _, by simp⟩) fun _ => ?_)
  refine Ok.bind (n_ok h.src 8 (by omega)) fun t2 q2 => ?_
  have k0 : GOk A ⟨t2.2, g'.args, g'.locals, g'.code, g'.most⟩ := h.with_ q2.1
  have e2 : ∀ g1, GOk A g1 → g1.code.length < 890000 → Ok (fun k => spec_l03Gen_expr k g1 2) (Gr A g1 22) := fun g1 a b => ex_ok hA 2 (by omega) g1 a b
  have e3 : ∀ g1, GOk A g1 → g1.code.length < 890000 → Ok (fun k => spec_l03Gen_expr k g1 3) (Gr A g1 22) := fun g1 a b => ex_ok hA 3 (by omega) g1 a b
  have e1 : ∀ g1, GOk A g1 → g1.code.length < 890000 → Ok (fun k => spec_l03Gen_expr k g1 1) (Gr A g1 22) := fun g1 a b => ex_ok hA 1 (by omega) g1 a b
  refine Ok.cond (fun _ => ?_) fun _ => ?_
  · refine Ok.bind (e2 _ k0 (by (try dsimp only); omega)) fun t3 q3 => Ok.gd (by rw [aeq]; exact congrArg _ q3.ok.args) ?_
    have h1 := q3.ge
    have h2 := q3.le
    (try dsimp only at h1 h2)
    exact put_fin q3.ok (by omega) aeq (by omega) (by omega)
  refine Ok.cond (fun _ => ?_) fun _ => ?_
  · refine Ok.cond (fun hd => ?_) fun _ => Ok.pure ⟨k0, Nat.le_refl _, by (try dsimp only); omega⟩
    simp only [decide_eq_true_eq] at hd
    refine Ok.bind (e2 _ k0 (by (try dsimp only); omega)) fun t3 q3 => Ok.gd (by rw [aeq]; exact congrArg _ q3.ok.args) ?_
    have h1 := q3.ge
    have h2 := q3.le
    (try dsimp only at h1 h2)
    refine put_then q3.ok (by omega) fun g3 a1 a2 => Ok.gd (by rw [aeq]; exact congrArg _ a1.args) ?_
    refine Ok.bind (call hd _ a1 (by (try dsimp only); omega)) fun t7 q7 => Ok.gd (by rw [aeq]; exact congrArg _ q7.ok.args) ?_
    have h3 := q7.ge
    have h4 := q7.le
    (try dsimp only at h3 h4)
    refine put_then q7.ok (by omega) fun g4 b1 b2 => Ok.gd (by rw [aeq]; exact congrArg _ b1.args) ?_
    refine Ok.bind (here_ok b1 _ (by (try dsimp only); omega) (by (try dsimp only); omega)) fun g5 c1 => Ok.gd (by rw [aeq]; exact congrArg _ c1.1.args) ?_
    have c2 := c1.2
    (try dsimp only at c2)
    refine Ok.bind (call hd _ c1.1 (by omega)) fun t8 q8 => Ok.gd (by rw [aeq]; exact congrArg _ q8.ok.args) ?_
    have h5 := q8.ge
    have h6 := q8.le
    refine Ok.bind (here_ok q8.ok _ (by (try dsimp only); omega) (by (try dsimp only); omega)) fun g6 d1 => Ok.gd (by rw [aeq]; exact congrArg _ d1.1.args) (Ok.pure ⟨d1.1, ?_, ?_⟩)
    · have := d1.2; omega
    · have := d1.2; omega
  refine Ok.bind (Q := fun o => o.1 = ⟨t2.2, g'.args, g'.locals, g'.code, g'.most⟩ ∧ o.2.1 = deep) ?_ ?_
  · unfold spec_l03Gen_stmt.a1
    exact Ok.cond (fun _ => Ok.pure ⟨rfl, rfl⟩) fun _ => Ok.pure ⟨rfl, rfl⟩
  rintro ⟨g1, d1, n1, b1⟩ ⟨x1, x2⟩
  have z1 : g1 = _ := x1
  have z2 : d1 = deep := x2
  have k1 : GOk A g1 := z1 ▸ k0
  have l1 : g1.code.length = g'.code.length := by rw [z1]
  have aeq1 := aeq
  clear x1 x2 z1 k0
  subst z2
  dsimp only
  refine Ok.gd (congrArg List.length (k1.args.trans h.args.symm)) ?_
  refine Ok.cond (fun _ => ?_) fun _ => ?_
  · refine Ok.bind (Q := fun o => o.1 = g1 ∧ o.2.1 = d1 ∧ (o.2.2 = true → 0 < d1)) ?_ ?_
    · unfold spec_l03Gen_stmt.a2
      refine Ok.cond (fun hd => Ok.pure ⟨rfl, rfl, fun _ => by simpa using hd⟩) fun _ => Ok.pure ⟨rfl, rfl, by simp⟩
    rintro ⟨g2, d2, b2⟩ ⟨x1, x2, x3⟩
    have z1 : g2 = g1 := x1
    have z2 : d2 = d1 := x2
    have z3 : b2 = true → 0 < d1 := x3
    clear x1 x2 x3
    subst z1 z2
    dsimp only
    refine Ok.gd (congrArg List.length (k1.args.trans h.args.symm)) ?_
    refine Ok.cond (fun hb => ?_) fun _ => Ok.pure ⟨k1, by (try dsimp only); omega, by (try dsimp only); omega⟩
    have hd := z3 hb
    refine Ok.bind (local_ok k1) ?_
    rintro ⟨z, g3⟩ ⟨y1, y2⟩
    have y2 : g3.code.length = g2.code.length := congrArg _ y2
    refine Ok.gd (by (try dsimp only); rw [aeq1]; exact congrArg _ y1.args) (Ok.bind (n_ok y1.src 6 (by omega)) fun t13 q13 => ?_)
    refine put_then (y1.with_ q13.1) (by (try dsimp only); omega) fun g4 a1 a2 => Ok.gd (by (try dsimp only); rw [aeq1]; exact congrArg _ a1.args) ?_
    (try dsimp only at a2)
    refine put_then a1 (by omega) fun g5 a3 a4 => Ok.gd (by (try dsimp only); rw [aeq1]; exact congrArg _ a3.args) ?_
    refine put_then a3 (by omega) fun g6 a5 a6 => Ok.gd (by (try dsimp only); rw [aeq1]; exact congrArg _ a5.args) ?_
    refine put_then a5 (by omega) fun g7 a7 a8 => Ok.gd (by (try dsimp only); rw [aeq1]; exact congrArg _ a7.args) ?_
    refine Ok.bind (call hd _ a7 (by (try dsimp only); omega)) fun t7 q7 => Ok.gd (by (try dsimp only); rw [aeq1]; exact congrArg _ q7.ok.args) ?_
    have h3 := q7.ge
    have h4 := q7.le
    (try dsimp only at h3 h4)
    refine put_then q7.ok (by omega) fun g8 b1 b2 => Ok.gd (by (try dsimp only); rw [aeq1]; exact congrArg _ b1.args) ?_
    refine put_then b1 (by omega) fun g9 b3 b4 => Ok.gd (by (try dsimp only); rw [aeq1]; exact congrArg _ b3.args) ?_
    refine put_then b3 (by omega) fun ga b5 b6 => Ok.gd (by (try dsimp only); rw [aeq1]; exact congrArg _ b5.args) ?_
    refine put_then b5 (by omega) fun gb b7 b8 => Ok.gd (by (try dsimp only); rw [aeq1]; exact congrArg _ b7.args) ?_
    refine put_then b7 (by omega) fun gc b9 ba => Ok.gd (by (try dsimp only); rw [aeq1]; exact congrArg _ b9.args) ?_
    refine Ok.bind (here_ok b9 _ (by (try dsimp only); omega) (by (try dsimp only); omega)) fun g5' c1 => Ok.gd (by (try dsimp only); rw [aeq1]; exact congrArg _ c1.1.args) (Ok.pure ⟨c1.1, ?_, ?_⟩)
    · have := c1.2; (try dsimp only at this ⊢); omega
    · have := c1.2; (try dsimp only at this ⊢); omega
  refine Ok.cond (fun _ => ?_) fun _ => ?_
  · refine Ok.cond (fun _ => ?_) fun _ => Ok.pure ⟨k1, by (try dsimp only); omega, by (try dsimp only); omega⟩
    refine Ok.bind (local_ok k1) ?_
    rintro ⟨z, g3⟩ ⟨y1, y2⟩
    have y2 : g3.code.length = g1.code.length := congrArg _ y2
    refine Ok.gd (by (try dsimp only); rw [aeq1]; exact congrArg _ y1.args) (Ok.bind (n_ok y1.src 6 (by omega)) fun t13 q13 => ?_)
    refine put_then (y1.with_ q13.1) (by (try dsimp only); omega) fun g4 a1 a2 => Ok.gd (by (try dsimp only); rw [aeq1]; exact congrArg _ a1.args) ?_
    (try dsimp only at a2)
    refine put_then a1 (by omega) fun g5 a3 a4 => Ok.gd (by (try dsimp only); rw [aeq1]; exact congrArg _ a3.args) ?_
    refine put_then a3 (by omega) fun g6 a5 a6 => Ok.gd (by (try dsimp only); rw [aeq1]; exact congrArg _ a5.args) ?_
    refine put_then a5 (by omega) fun g7 a7 a8 => Ok.gd (by (try dsimp only); rw [aeq1]; exact congrArg _ a7.args) ?_
    refine Ok.bind (n_ok a7.src 4 (by omega)) fun t31 q31 => ?_
    refine put_then (a7.with_ q31.1) (by (try dsimp only); omega) fun g8 a9 aa => Ok.gd (by (try dsimp only); rw [aeq1]; exact congrArg _ a9.args) ?_
    (try dsimp only at aa ⊢)
    refine Ok.bind (e1 _ a9 (by omega)) fun t33 q33 => Ok.gd (by (try dsimp only); rw [aeq1]; exact congrArg _ q33.ok.args) ?_
    have h3 := q33.ge
    have h4 := q33.le
    (try dsimp only at h3 h4)
    exact put_fin q33.ok (by omega) aeq1 (by omega) (by omega)
  refine Ok.cond (fun _ => ?_) fun _ => ?_
  · refine Ok.bind (e3 _ k1 (by (try dsimp only); omega)) fun t35 q35 => Ok.gd (by (try dsimp only); rw [aeq1]; exact congrArg _ q35.ok.args) ?_
    have h3 := q35.ge
    have h4 := q35.le
    (try dsimp only at h3 h4)
    exact put_fin q35.ok (by omega) aeq1 (by omega) (by omega)
  refine Ok.bind (e3 _ k1 (by (try dsimp only); omega)) fun t35 q35 => Ok.gd (by (try dsimp only); rw [aeq1]; exact congrArg _ q35.ok.args) ?_
  have h3 := q35.ge
  have h4 := q35.le
  (try dsimp only at h3 h4)
  refine Ok.cond (fun _ => ?_) fun _ => put_fin q35.ok (by omega) aeq1 (by omega) (by omega)
  refine Ok.bind (local_ok q35.ok) ?_
  rintro ⟨z, g3⟩ ⟨y1, y2⟩
  have y2 : g3.code.length = t35.code.length := congrArg _ y2
  exact Ok.gd (by (try dsimp only); rw [aeq1]; exact congrArg _ y1.args) (put_fin y1 (by (try dsimp only); omega) aeq1 (by (try dsimp only); omega) (by (try dsimp only); omega))
theorem stmt_ok {A : List Int} (hA : AOk A) : ∀ (d : Nat), d ≤ 5 → ∀ (g : Gl03Gen) (deep : Int), deep ≤ (d : Int) → GOk A g → g.code.length + 6 * sSize d < 700000 → Ok (fun k => spec_l03Gen_stmt k g deep) (Gr A g (sSize d)) := by
  intro d
  induction d with
  | zero =>
    intro _ g deep hd h hN
    have : sSize 0 = 60 := rfl
    exact Ok.succ (stmt_step hA (S := 0) (fun h0 => by omega) h (by omega))
  | succ d ih =>
    intro hd5 g deep hd h hN
    have e : sSize (d + 1) = 2 * sSize d + 60 := rfl
    have := sSize_pos d
    have hs : sSize d ≤ 3780 := by
      have : d = 0 ∨ d = 1 ∨ d = 2 ∨ d = 3 ∨ d = 4 := by omega
      rcases this with rfl | rfl | rfl | rfl | rfl <;> decide
    rw [e] at hN ⊢
    refine Ok.succ (stmt_step hA (S := sSize d) (fun h0 g' hg hl => ?_) h (by omega))
    rw [wrap_id (by omega) (by omega)]
    exact ih (by omega) g' (deep - 1) (by omega) hg (by omega)
structure FW (m : GFunc) : Prop where
  args : L.i64 m.args
  code : m.code.length ≤ 6000
structure PW (p : GProgram) : Prop where
  len : p.funcs.length ≤ 8
  all : ∀ m ∈ p.funcs, FW m
structure PN (p : GProgram) : Prop where
  len : 1 ≤ p.funcs.length ∧ p.funcs.length ≤ 3
  all : ∀ m ∈ p.funcs, L.i64 m.args ∧ 1 ≤ m.code.length ∧ m.code.length ≤ 5000
theorem PN.pw {p : GProgram} (h : PN p) : PW p := ⟨by have := h.len; omega, fun m hm => ⟨(h.all m hm).1, by have := (h.all m hm).2; omega⟩⟩
theorem progArgs_ok (a2 a3 : GProgram) : ∀ (c : Nat) (s : Gl01Src) (A : List Int), SOk s → (∀ a ∈ A, 0 ≤ a ∧ a ≤ 2) → A.length + c ≤ 3 →
    Ok (fun k => spec_l01Src_l03Program.l1 k s a2 a3 A (c : Int)) (fun r => SOk r.1 ∧ r.2.1 = a2 ∧ r.2.2.1 = a3 ∧ r.2.2.2.length = A.length + c ∧ ∀ a ∈ r.2.2.2, 0 ≤ a ∧ a ≤ 2)
  | 0, s, A, hs, hA, hl => by
    refine Ok.succ ?_
    simp only [spec_l01Src_l03Program.l1]
    exact Ok.cond (fun h => by simp at h) fun _ => Ok.pure ⟨hs, rfl, rfl, rfl, hA⟩
  | c + 1, s, A, hs, hA, hl => by
    refine Ok.succ ?_
    simp only [spec_l01Src_l03Program.l1]
    refine Ok.cond (fun _ => ?_) fun h => by first | (simp at h; done) | (simp at h; omega)
    refine Ok.bind (n_ok hs 3 (by omega)) fun t q => Ok.gd ⟨by omega, by omega⟩ ?_
    rw [show IntKind.i64.wrap (((c + 1 : Nat) : Int) - 1) = (c : Int) by rw [wrap_id (by omega) (by omega)]; omega]
    refine (progArgs_ok a2 a3 c t.2 (A ++ [t.1]) q.1 (fun a ha => ?_) (by simp; omega)).mono fun r hr => ⟨hr.1, hr.2.1, hr.2.2.1, by have := hr.2.2.2.1; simp at this; omega, hr.2.2.2.2⟩
    simp only [List.mem_append, List.mem_cons, List.not_mem_nil, or_false] at ha
    rcases ha with ha | rfl
    · exact hA a ha
    · have := q.2
      omega
theorem progStmts_ok {A : List Int} (hA : AOk A) (a1 a2 : GProgram) (f : Int) : ∀ (c : Nat) (g : Gl03Gen), c ≤ 3 → GOk A g → g.code.length + c * 420 + 3000 < 700000 →
    Ok (fun k => spec_l01Src_l03Program.l3 k a1 a2 g f (c : Int)) (fun r => r.1 = a1 ∧ r.2.1 = a2 ∧ Gr A g (c * 420) r.2.2.1 ∧ r.2.2.2 = f)
  | 0, g, hc, h, hN => by
    refine Ok.succ ?_
    simp only [spec_l01Src_l03Program.l3]
    exact Ok.cond (fun h => by simp at h) fun _ => Ok.pure ⟨rfl, rfl, ⟨h, Nat.le_refl _, by simp⟩, rfl⟩
  | c + 1, g, hc, h, hN => by
    refine Ok.succ ?_
    simp only [spec_l01Src_l03Program.l3]
    refine Ok.cond (fun _ => ?_) fun h => by first | (simp at h; done) | (simp at h; omega)
    have es : sSize 2 = 420 := rfl
    refine Ok.bind (stmt_ok hA 2 (by omega) g 2 (by omega) h (by omega)) fun t q => Ok.gd (by rw [q.ok.args, h.args]) ?_
    rw [show IntKind.i64.wrap (((c + 1 : Nat) : Int) - 1) = (c : Int) by rw [wrap_id (by omega) (by omega)]; omega]
    have h1 := q.ge
    have h2 := q.le
    rw [es] at h2
    refine (progStmts_ok hA a1 a2 f c t (by omega) q.ok (by omega)).mono fun r hr => ⟨hr.1, hr.2.1, ⟨hr.2.2.1.ok, ?_, ?_⟩, hr.2.2.2⟩
    · have := hr.2.2.1.ge; omega
    · have := hr.2.2.1.le; omega
theorem min_ok (a b : Int) : spec_l01Min a b = some (if a < b then a else b) := by
  unfold spec_l01Min
  by_cases h : a < b <;> simp [h]
theorem progFuncs_ok {A : List Int} (hA : AOk A) (a2 : GProgram) : ∀ (d i : Nat) (s : Gl01Src) (p : GProgram), A.length - i = d → i ≤ A.length → SOk s → p.funcs.length = i → (∀ m ∈ p.funcs, L.i64 m.args ∧ 1 ≤ m.code.length ∧ m.code.length ≤ 5000) →
    Ok (fun k => spec_l01Src_l03Program.l2 k s a2 p A (i : Int)) (fun r => SOk r.1 ∧ PN r.2.2)
  | 0, i, s, p, hd, hi, hs, hp, hall => by
    refine Ok.succ ?_
    simp only [spec_l01Src_l03Program.l2]
    have := hA.len
    exact Ok.cond (fun h => by simp at h; omega) fun _ => Ok.pure ⟨hs, ⟨by dsimp only; omega, by dsimp only; omega⟩, hall⟩
  | d + 1, i, s, p, hd, hi, hs, hp, hall => by
    refine Ok.succ ?_
    simp only [spec_l01Src_l03Program.l2]
    have hl := hA.len
    refine Ok.cond (fun _ => ?_) fun h => by first | (simp at h; done) | (simp at h; omega)
    refine Ok.idx (by omega) (by omega) fun m3 hm3 => ?_
    have h3 := hA.all m3 (List.mem_of_getElem? hm3)
    refine Ok.bind (n_ok hs 4 (by omega)) fun t4 q4 => ?_
    have h4 := q4.2
    rw [wrap_id (by omega) (by omega)]
    refine Ok.bind (Q := fun t => (if 8 < m3 + t4.1 then 8 else m3 + t4.1) = t) (Ok.const (min_ok _ _) rfl) ?_
    rintro t5 h5
    have h5' : 0 ≤ t5 ∧ t5 ≤ 8 := by rw [← h5]; split <;> omega
    refine Ok.bind (n_ok q4.1 3 (by omega)) fun t6 q6 => ?_
    have h6 := q6.2
    obtain ⟨c, hc⟩ := Int.eq_ofNat_of_zero_le (show 0 ≤ 1 + t6.1 by omega)
    rw [show IntKind.i64.wrap (1 + t6.1) = (c : Int) by rw [wrap_id (by omega) (by omega)]; exact hc]
    refine Ok.bind (progStmts_ok hA a2 p i c ⟨t6.2, A, t5, [], _⟩ (by omega) ⟨rfl, q6.1, h5'⟩ (by simp; omega)) ?_
    rintro ⟨a2', p', g1, i'⟩ ⟨e1, e2, e3, e4⟩
    have e1 : a2' = a2 := e1
    have e2 : p' = p := e2
    have e4 : i' = (i : Int) := e4
    have e3 : Gr A _ (c * 420) g1 := e3
    subst e1 e2 e4
    have g1l := e3.le
    simp only [List.length_nil] at g1l
    dsimp only
    refine Ok.gd (congrArg List.length e3.ok.args) ?_
    refine Ok.bind (ex_ok hA 2 (by omega) g1 e3.ok (by omega)) fun t8 q8 => Ok.gd (congrArg List.length q8.ok.args) ?_
    have h8 := q8.le
    have a2_ := congrArg List.length e3.ok.args
    refine put_then q8.ok (by omega) fun g2 b1 b2 => Ok.gd (congrArg List.length b1.args) ?_
    dsimp only
    rw [b1.args]
    refine Ok.idx (by omega) (by omega) fun m hm => Ok.gd ⟨by omega, by omega⟩ ?_
    have hmA := hA.all m (List.mem_of_getElem? hm)
    rw [wrap_nat (by omega)]
    refine progFuncs_ok hA a2' d (i + 1) g2.s _ (by omega) (by omega) b1.src (by simp; omega) fun m' hm' => ?_
    simp only [List.mem_append, List.mem_cons, List.not_mem_nil, or_false] at hm'
    rcases hm' with hm' | rfl
    · exact hall m' hm'
    · exact ⟨⟨by dsimp only; omega, by dsimp only; omega⟩, by dsimp only; omega, by dsimp only; omega⟩
theorem mem_set {α : Type} {l : List α} {i : Nat} {x y : α} (h : x ∈ l.set i y) : x ∈ l ∨ x = y := List.mem_or_eq_of_mem_set h
theorem pw_set {p : GProgram} (h : PN p) (i : Nat) {m : GFunc} (hm : FW m) : PW ⟨p.funcs.set i m⟩ := by
  refine ⟨by have := h.len; simp; omega, fun x hx => ?_⟩
  rcases mem_set hx with hx | rfl
  · exact h.pw.all x hx
  · exact hm
theorem spoilMore_ok : ∀ (d : Nat) (s : Gl01Src) (p : GProgram), 7 - p.funcs.length = d → SOk s → 1 ≤ p.funcs.length → p.funcs.length ≤ 7 → (∀ m ∈ p.funcs, FW m) → Ok (fun k => spec_l01Src_l03Spoil.l1 k s p) (fun r => SOk r.1 ∧ PW r.2)
  | d, s, p, hd, hs, h1, h2, hall => by
    refine Ok.succ ?_
    simp only [spec_l01Src_l03Spoil.l1]
    refine Ok.bind (n_ok hs 2 (by omega)) fun t q => ?_
    have hq := q.2
    rw [wrap_id (by omega) (by omega)]
    refine Ok.cond (fun hc => ?_) fun _ => Ok.pure ⟨q.1, ⟨by dsimp only; omega, hall⟩⟩
    simp only [decide_eq_true_eq] at hc
    refine Ok.idx (by omega) (by omega) fun m hm => Ok.gd ⟨by omega, by omega⟩ ?_
    match d, hd with
    | 0, hd => omega
    | d + 1, hd =>
      refine spoilMore_ok d t.2 _ (by simp; omega) q.1 (by simp) (by simp; omega) fun x hx => ?_
      have hmm := hall m (List.mem_of_getElem? hm)
      simp only [List.mem_append, List.mem_cons, List.not_mem_nil, or_false] at hx
      rcases hx with hx | rfl
      · exact hall x hx
      · exact hmm
theorem spoil_ok {s : Gl01Src} (hs : SOk s) {p : GProgram} (hp : PN p) : Ok (fun k => spec_l01Src_l03Spoil k s p) (fun r => SOk r.1 ∧ PW r.2) := by
  unfold spec_l01Src_l03Spoil
  have hl := hp.len
  refine Ok.bind (n_ok hs _ (by omega)) fun t1 q1 => ?_
  have h1 := q1.2
  refine Ok.idx h1.1 (by omega) fun m hm => ?_
  have hma := hp.all m (List.mem_of_getElem? hm)
  have hmi := hma.1
  have hmF : FW m := ⟨hmi, by omega⟩
  refine Ok.bind (n_ok q1.1 _ (by omega)) fun t3 q3 => ?_
  have h3 := q3.2
  have hk : t3.1 < (m.code.length : Int) := by omega
  refine Ok.bind (n_ok q3.1 8 (by omega)) fun t4 q4 => ?_
  refine Ok.cond (fun _ => ?_) fun _ => ?_
  · exact Ok.bind (n_ok q4.1 42 (by omega)) fun t5 q5 => Ok.idx h3.1 hk fun m6 hm6 => Ok.pure ⟨q5.1, pw_set hp _ ⟨hmi, by simp; omega⟩⟩
  refine Ok.cond (fun _ => ?_) fun _ => ?_
  · exact Ok.bind (n_ok q4.1 70 (by omega)) fun t5 q5 => Ok.idx h3.1 hk fun m6 hm6 => Ok.pure ⟨q5.1, pw_set hp _ ⟨hmi, by simp; omega⟩⟩
  refine Ok.cond (fun _ => ?_) fun _ => ?_
  · refine Ok.bind (n_ok q4.1 7 (by omega)) fun t5 q5 => Ok.pure ⟨q5.1, pw_set hp _ ⟨?_, by dsimp only; omega⟩⟩
    have := q5.2
    dsimp only
    rw [wrap_id (by omega) (by omega)]
    exact ⟨by omega, by omega⟩
  refine Ok.cond (fun _ => ?_) fun _ => ?_
  · exact Ok.bind (n_ok q4.1 4 (by omega)) fun t5 q5 => Ok.idx q5.2.1 (by simp; omega) fun m6 hm6 => Ok.pure ⟨q5.1, pw_set hp _ ⟨hmi, by dsimp only; omega⟩⟩
  refine Ok.cond (fun _ => ?_) fun _ => ?_
  · exact Ok.gd ⟨h3.1, by omega⟩ (Ok.pure ⟨q4.1, pw_set hp _ ⟨hmi, by simp; omega⟩⟩)
  refine Ok.cond (fun _ => ?_) fun _ => ?_
  · exact Ok.gd ⟨by omega, by omega⟩ (Ok.pure ⟨q4.1, pw_set hp _ ⟨hmi, by simp; omega⟩⟩)
  refine Ok.cond (fun _ => ?_) fun _ => ?_
  · exact Ok.bind (n_ok q4.1 _ (by omega)) fun t5 q5 => Ok.idx h3.1 hk fun m6 hm6 => Ok.pure ⟨q5.1, pw_set hp _ ⟨hmi, by simp; omega⟩⟩
  refine Ok.bind (spoilMore_ok _ t4.2 ⟨p.funcs.set t1.1.toNat m⟩ rfl q4.1 (by simp; omega) (by simp; omega) fun x hx => ?_) fun r hr => Ok.pure hr
  rcases mem_set hx with hx | rfl
  · exact hp.pw.all x hx
  · exact hmF
theorem program_ok {s : Gl01Src} (hs : SOk s) : Ok (fun k => spec_l01Src_l03Program k s) (fun r => PW r.1 ∧ SOk r.2) := by
  unfold spec_l01Src_l03Program
  refine Ok.bind (n_ok hs 3 (by omega)) fun t1 q1 => ?_
  have h1 := q1.2
  obtain ⟨c, hc⟩ := Int.eq_ofNat_of_zero_le (show 0 ≤ 1 + t1.1 by omega)
  rw [show IntKind.i64.wrap (1 + t1.1) = (c : Int) by rw [wrap_id (by omega) (by omega)]; exact hc]
  refine Ok.bind (progArgs_ok ⟨[]⟩ ⟨[]⟩ c t1.2 [] q1.1 (by simp) (by simp; omega)) ?_
  rintro ⟨s1, a2, a3, A⟩ ⟨e1, e2, e3, e4, e5⟩
  have e2 : a2 = ⟨[]⟩ := e2
  have e3 : a3 = ⟨[]⟩ := e3
  subst e2 e3
  have e4 : A.length = 0 + c := e4
  have hA : AOk A := ⟨by omega, e5⟩
  dsimp only
  refine Ok.bind (progFuncs_ok hA ⟨[]⟩ _ 0 s1 ⟨[]⟩ rfl (by omega) e1 rfl (by simp)) ?_
  rintro ⟨s2, a2, p⟩ ⟨f1, f2⟩
  dsimp only at f1 f2 ⊢
  refine Ok.bind (one_ok f1 12 (by omega)) fun t q => Ok.cond (fun _ => ?_) fun _ => Ok.pure ⟨f2.pw, q⟩
  exact Ok.bind (spoil_ok q f2) fun r hr => Ok.pure ⟨hr.2, hr.1⟩
theorem source_l (code : List Int) (hc : code.length ≤ 1048576) : ∀ (d i : Nat) (s : Gl01Src), 64 - i = d → i ≤ 64 → i ≤ code.length → s.b = code → s.at0 = 0 → s.size = 0 →
    Ok (fun k => spec_l01Source.l1 k s code (i : Int)) (fun r => r.1.b = code ∧ r.1.at0 = 0 ∧ r.2 = code)
  | d, i, s, hd, hi, hi2, hb, h0, hz => by
    refine Ok.succ ?_
    simp only [spec_l01Source.l1]
    refine Ok.bind (Q := fun o => (o = .inl (s, code, (i : Int)) ∧ i < code.length ∧ i < 64) ∨ o = .inr (s, code)) ?_ ?_
    · unfold spec_l01Source.a2
      refine Ok.cond (fun h => Ok.cond (fun h2 => Ok.pure (.inl ⟨rfl, ?_, ?_⟩)) fun _ => Ok.pure (.inr rfl)) fun _ => Ok.pure (.inr rfl)
      · simp at h; exact h
      · simp at h2; omega
    · rintro o (⟨rfl, h1, h2⟩ | rfl)
      · dsimp only [Sum.elim_inl]
        refine Ok.idx (by omega) (by omega) fun m hm => ?_
        rw [wrap_nat (by omega)]
        match d, hd with
        | 0, hd => omega
        | d + 1, hd => exact source_l code hc d (i + 1) _ (by omega) (by omega) (by omega) hb h0 hz
      · exact Ok.pure ⟨hb, h0, rfl⟩
theorem source_ok (code : List Int) (hc : code.length ≤ 1048576) : Ok (fun k => spec_l01Source k code) SOk := by
  unfold spec_l01Source
  refine Ok.bind (source_l code hc _ 0 ⟨code, 0, 88172645463325252, 0⟩ rfl (by omega) (by omega) rfl rfl rfl) ?_
  rintro ⟨s, l⟩ ⟨e1, e2, e3⟩
  have e1 : s.b = code := e1
  have e2 : s.at0 = 0 := e2
  have e3 : l = code := e3
  subst e3
  have hq : iquo .i64 (l.length : Int) 20 = (l.length : Int) / 20 := by
    unfold iquo
    rw [Int.tdiv_eq_ediv_of_nonneg (by omega), wrap_id (by omega) (by omega)]
  dsimp only
  rw [hq]
  refine Ok.cond (fun h => Ok.pure ⟨by dsimp only; rw [e2, e1]; omega, by dsimp only; rw [e1]; exact hc, by dsimp only; omega⟩) fun h => Ok.pure ⟨by dsimp only; rw [e2, e1]; omega, by dsimp only; rw [e1]; exact hc, ?_⟩
  simp at h
  dsimp only
  omega
theorem drawOne_ok (code : List Int) (hc : code.length ≤ 1048576) : Ok (fun k => spec_l04One k code) (fun r => PW r.1) := by
  unfold spec_l04One
  refine Ok.bind (source_ok code hc) fun s hs => Ok.bind (program_ok hs) fun t ht => Ok.bind (one_ok ht.2 20 (by omega)) fun t3 q3 => ?_
  have := ht.1.len
  exact Ok.cond (fun _ => Ok.bind (n_ok q3 9 (by omega)) fun _ _ => Ok.pure ht.1) fun _ => Ok.bind (n_ok q3 _ (by omega)) fun _ _ => Ok.pure ht.1
end Go.Proofs.Ytdlaplgofgklnaa
namespace Go.Proofs.Ytdlaplgofgklnaa
open Go.Proofs Go.Proofs.Ytdlaplgofgklnaa.L
set_option linter.unusedVariables false
set_option linter.unusedSimpArgs false
theorem PW.args64 {p : GProgram} (h : PW p) : Args64 p := fun m hm => (h.all m hm).args
theorem putN_new {len : Nat} {v : Int} : ∀ (ns : List Int) (h : List Int) (w : List Bool) (h' : List Int) (w' : List Bool), putN len v ns h w = some (h', w') →
    ∀ (j : Nat) (y : Int), h'[j]? = some y → 0 ≤ y → h[j]? = some y ∨ ∃ n ∈ ns, n.toNat = j
  | [], h, w, h', w', hp => by
    simp only [putN, Option.some.injEq, Prod.mk.injEq] at hp
    obtain ⟨rfl, rfl⟩ := hp
    exact fun _ _ h _ => .inl h
  | n :: ns, h, w, h', w', hp => by
    intro j y hj hy
    simp only [putN] at hp
    split at hp
    · cases hp
    split at hp
    · cases hp
    split at hp
    · split at hp
      · rcases putN_new ns h w h' w' hp j y hj hy with g | ⟨m, hm, e⟩
        · exact .inl g
        · exact .inr ⟨m, List.mem_cons_of_mem _ hm, e⟩
      · cases hp
    · rcases putN_new ns _ _ h' w' hp j y hj hy with g | ⟨m, hm, e⟩
      · by_cases e : n.toNat = j
        · exact .inr ⟨n, by simp, e⟩
        · rw [List.getElem?_set_ne e] at g; exact .inl g
      · exact .inr ⟨m, List.mem_cons_of_mem _ hm, e⟩
theorem hit_lt {code : List GI2} {h : List Int} {t : Int} {x : Nat} (hh : hit code h t x = true) : x < code.length := by
  unfold hit at hh
  split at hh
  · rename_i h1 h2
    exact (List.getElem?_eq_some_iff.1 h1).1
  · cases hh
theorem hit_live {code : List GI2} {h : List Int} {t : Int} {x : Nat} (hh : hit code h t x = true) : live h x = true := by
  unfold hit at hh
  split at hh
  · rename_i h1 h2
    rw [Bool.and_eq_true] at hh
    rw [live_of h2]
    exact hh.1
  · cases hh
theorem predsUp_has {code : List GI2} {h : List Int} {t : Int} {q : Nat} (hq : hit code h t q = true) : ∀ n, q < n → (q : Int) ∈ predsUp code h t n
  | 0, hn => by omega
  | n + 1, hn => by
    simp only [predsUp, List.mem_append]
    by_cases e : q = n
    · subst e; right; simp [hq]
    · left; exact predsUp_has hq n (by omega)
theorem sweep_stop {pr : Nat → List Int} {all : B} {lv : Nat → Bool} : ∀ (d i : Nat) (ds ds' : List B) (c : Bool), i + d ≤ ds.length → sweep pr all lv d i ds c = (ds', false) → c = false ∧ ds' = ds ∧ ∀ j, i ≤ j → j < i + d → lv j = true → newB pr all ds j = at0 ds j
  | 0, i, ds, ds', c, hl, h => by
    simp only [sweep, Prod.mk.injEq] at h
    exact ⟨h.2, h.1.symm, fun j h1 h2 => by omega⟩
  | d + 1, i, ds, ds', c, hl, h => by
    unfold sweep at h
    split at h
    · rename_i hv
      obtain ⟨g1, g2, g3⟩ := sweep_stop d (i + 1) _ ds' _ (by rw [List.length_set]; omega) h
      rw [Bool.or_eq_false_iff] at g1
      have e : newB pr all ds i = at0 ds i := by
        have := g1.2
        simpa using this
      have es : ds.set i (newB pr all ds i) = ds := by
        rw [e]
        obtain ⟨v, hv⟩ := list_get (show i < ds.length by omega)
        rw [at0_of hv]
        exact set_same hv
      rw [es] at g2 g3
      refine ⟨g1.1, g2, fun j h1 h2 h3 => ?_⟩
      by_cases ej : j = i
      · subst ej; exact e
      · exact g3 j (by omega) (by omega) h3
    · rename_i hv
      obtain ⟨g1, g2, g3⟩ := sweep_stop d (i + 1) ds ds' c (by omega) h
      refine ⟨g1, g2, fun j h1 h2 h3 => ?_⟩
      by_cases ej : j = i
      · subst ej; exact absurd h3 hv
      · exact g3 j (by omega) (by omega) h3
theorem sweep_keep {pr : Nat → List Int} {all : B} {lv : Nat → Bool} {len : Nat} {Q : List B → Prop} (hQ : ∀ ds i, Q ds → 1 ≤ i → i < len → lv i = true → Q (ds.set i (newB pr all ds i))) : ∀ (d i : Nat) (ds : List B) (c : Bool), 1 ≤ i → i + d ≤ len → Q ds → Q (sweep pr all lv d i ds c).1
  | 0, i, ds, c, h1, h2, h => h
  | d + 1, i, ds, c, h1, h2, h => by
    unfold sweep
    split
    · rename_i hv
      exact sweep_keep hQ d (i + 1) _ _ (by omega) (by omega) (hQ ds i h h1 (by omega) hv)
    · exact sweep_keep hQ d (i + 1) ds c (by omega) (by omega) h
theorem rounds_keep {pr : Nat → List Int} {all : B} {lv : Nat → Bool} {len : Nat} {Q : List B → Prop} (hlen : 1 ≤ len) (hQ : ∀ ds i, Q ds → 1 ≤ i → i < len → lv i = true → Q (ds.set i (newB pr all ds i)))
    {ds out : List B} (h : Rounds pr all lv len ds out) (hs : ds.length = len) (h0 : Q ds) : Q out ∧ out.length = len ∧ ∀ j, 1 ≤ j → j < len → lv j = true → newB pr all out j = at0 out j := by
  induction h with
  | @stop ds ds' h1 =>
    obtain ⟨-, e, g⟩ := sweep_stop _ _ _ _ _ (by omega) h1
    subst e
    exact ⟨h0, hs, fun j j1 j2 j3 => g j j1 (by omega) j3⟩
  | @go ds ds' out h1 h2 ih =>
    have k := sweep_keep (len := len) hQ (len - 1) 1 ds false (by omega) (by omega) h0
    have kl := sweep_len pr all lv (len - 1) 1 ds false
    rw [h1] at k kl
    exact ih (by rw [kl]; exact hs) k
theorem meet_bit {ds : List B} {b : Nat} : ∀ (ps : List Int) (m : B), m.getLsbD b = true → (∀ p ∈ ps, (at0 ds p.toNat).getLsbD b = true) → (meet ds ps m).getLsbD b = true
  | [], m, hm, hp => hm
  | p :: ps, m, hm, hp => meet_bit ps _ (by rw [BitVec.getLsbD_and, hm, hp p (by simp)]; rfl) fun q hq => hp q (List.mem_cons_of_mem _ hq)
structure DomOk (m : GFunc) (h : List Int) (o : List B) : Prop where
  len : o.length = m.code.length
  dead : ∀ j, j < m.code.length → live h j = false → at0 o j = 0#64
  zero : at0 o 0 = 1#64
  bit0 : ∀ j, j < m.code.length → live h j = true → (at0 o j).getLsbD 0 = true
  own : ∀ j, j < m.code.length → live h j = true → (at0 o j).getLsbD j = true
  sub : ∀ j, j < m.code.length → Sub (at0 o j) (allB m h)
  fix : ∀ j, 1 ≤ j → j < m.code.length → live h j = true → newB (prs m h) (allB m h) o j = at0 o j
theorem dom_ok {p : GProgram} {f : Nat} {m : GFunc} {h : List Int} (hF : Fn p f m h) (h00 : h[0]? = some 0) {o : List B} (hr : Rounds (prs m h) (allB m h) (live h) m.code.length (start m h) o) (hi : SInv (prs m h) (allB m h) (live h) m.code.length o) : DomOk m h o := by
  have hc := hF.code
  have l0 : live h 0 = true := by rw [live_of h00]; rfl
  have allbit : ∀ n, n < m.code.length → live h n = true → (allB m h).getLsbD n = true := fun n h1 h2 => by rw [allUp_get _ _ _ (by omega), h2]; simp [h1]
  have psok : ∀ i p, p ∈ prs m h i → p.toNat < m.code.length ∧ live h p.toNat = true := fun i p hp => by
    obtain ⟨n, h1, rfl, h2⟩ := predsUp_mem hp
    exact ⟨by simpa using h1, by simpa using hit_live h2⟩
  have hstart : ∀ i, i < m.code.length → at0 (start m h) i = if 0 = i then 1#64 else if live h i = true then allB m h else 0#64 := by
    intro i hi
    rw [at0_set _ (by rw [startUp_len]; omega)]
    split
    · rfl
    · exact startUp_at _ _ _ _ _ (Nat.le_refl _) hi
  have one : (1#64 : B).getLsbD 0 = true := by decide
  obtain ⟨k1, k2, k3⟩ := rounds_keep (Q := fun ds => ds.length = m.code.length ∧ (∀ j, j < m.code.length → live h j = false → at0 ds j = 0#64) ∧ at0 ds 0 = 1#64 ∧ (∀ j, j < m.code.length → live h j = true → (at0 ds j).getLsbD 0 = true) ∧ (∀ j, j < m.code.length → Sub (at0 ds j) (allB m h)))
    hc.1 (fun ds i hq h1 h2 h3 => by
      obtain ⟨q0, q1, q2, q3, q4⟩ := hq
      have hi : i < ds.length := by omega
      refine ⟨by rw [List.length_set]; exact q0, fun j j1 j2 => ?_, ?_, fun j j1 j2 => ?_, fun j j1 => ?_⟩
      · rw [at0_set _ hi, if_neg (fun e => by subst e; rw [h3] at j2; cases j2)]
        exact q1 j j1 j2
      · rw [at0_set _ hi, if_neg (by omega)]; exact q2
      · rw [at0_set _ hi]
        split
        · unfold newB
          rw [BitVec.getLsbD_or, meet_bit _ _ (allbit 0 (by omega) l0) (fun p hp => q3 _ (psok i p hp).1 (psok i p hp).2)]
          rfl
        · exact q3 j j1 j2
      · rw [at0_set _ hi]
        split
        · intro n hn
          unfold newB at hn
          rw [BitVec.getLsbD_or, Bool.or_eq_true] at hn
          rcases hn with hn | hn
          · exact meet_into _ _ _ n hn
          · rw [bitB_get _ _ (by omega)] at hn
            have : n = i := by simpa using hn
            subst this
            exact allbit n h2 h3
        · exact q4 j j1) hr (by simp [startUp_len]) (by
      refine ⟨by simp [startUp_len], fun j j1 j2 => ?_, by rw [hstart 0 (by omega)]; simp, fun j j1 j2 => ?_, fun j j1 => ?_⟩
      · rw [hstart j j1, if_neg (fun e => by subst e; rw [l0] at j2; cases j2), if_neg (by rw [j2]; simp)]
      · rw [hstart j j1]
        split
        · exact one
        · first | exact allbit 0 (by omega) l0 | (rw [if_pos j2]; exact allbit 0 (by omega) l0)
      · rw [hstart j j1]
        split
        · rename_i e
          intro n hn
          have : n = 0 := by
            rw [BitVec.getLsbD_one] at hn
            simpa using hn
          subst this
          exact allbit 0 (by omega) l0
        · split
          · exact Sub.refl _
          · intro n hn; simp at hn)
  exact ⟨k2, k1.2.1, k1.2.2.1, k1.2.2.2.1, hi.own, k1.2.2.2.2, k3⟩
theorem u64_nat {n : Nat} (h : n < 1000000) : IntKind.u64.wrap (n : Int) = (n : Int) := u64_id (by omega) (by omega)
inductive Rch (code : List GI2) (h : List Int) : Nat → Nat → Prop
  | zero : Rch code h 0 0
  | step {n x z : Nat} (h1 : Rch code h n x) (h2 : hit code h (z : Int) x = true) : Rch code h (n + 1) z
theorem Rch.keep {code : List GI2} {h h' : List Int} (k : ∀ (t : Int) (q : Nat), hit code h t q = true → hit code h' t q = true) {n z : Nat} (r : Rch code h n z) : Rch code h' n z := by
  induction r with
  | zero => exact .zero
  | step h1 h2 ih => exact .step ih (k _ _ h2)
theorem run_rch {p : GProgram} {code : List GI2} (hj : JumpsOk code) {h : List Int} {w : List Bool} {r : Option (List Int)} (hr : HRun (stepN p code) h w r) :
    (∀ (z : Nat) (u : Int), h[z]? = some u → 0 ≤ u → ∃ n, Rch code h n z) → (∀ j : Nat, w[j]? = some true → ∃ u, h[j]? = some u ∧ 0 ≤ u) → HInv A1 W1 h w → Normal p →
    ∀ hf, r = some hf → (∀ (z : Nat) (u : Int), hf[z]? = some u → 0 ≤ u → ∃ n, Rch code hf n z) := by
  induction hr with
  | done h1 => intro hi hw hv hN hf e; cases e; exact hi
  | bad h1 h2 => intro hi hw hv hN hf e; cases e
  | @go h h' w w' x r h1 h2 h3 ih =>
    intro hi hw hv hN hf e
    have hv' := (stepN_inv hN hv h1.1 h2).1
    unfold stepN at h2
    split at h2
    · rename_i i y hx hy
      split at h2
      · cases h2
      split at h2
      · cases h2
      rename_i c1 c2
      have hpu := putsL_range i
      obtain ⟨u0, hu0, h0u⟩ := hw x h1.1
      rw [hy] at hu0
      cases hu0
      obtain ⟨g1, g2, g3, g4, g5⟩ := putN_keep (by omega) _ _ _ _ _ h2
      have keep : ∀ (t : Int) (q : Nat), hit code h t q = true → hit code h' t q = true := by
        intro t q hq
        unfold hit at hq ⊢
        split at hq
        · rename_i i' y' hi' hy'
          rw [Bool.and_eq_true, decide_eq_true_eq] at hq
          rw [hi', g1 q y' hy' hq.1]
          simp only [hq.1, hq.2, decide_true, Bool.and_self]
        · cases hq
      refine ih (fun z u hz h0z => ?_) (fun j hj' => ?_) hv' hN hf e
      · rcases putN_new _ _ _ _ _ h2 z u hz h0z with k | ⟨n, hn, e⟩
        · obtain ⟨n, hn⟩ := hi z u k h0z
          exact ⟨n, hn.keep keep⟩
        · obtain ⟨n0, r0⟩ := hi x y hy h0u
          refine ⟨n0 + 1, .step (r0.keep keep) ?_⟩
          have hn0 := (nextL_in hj hx n hn).1
          unfold hit
          rw [hx, g1 x y hy h0u]
          have : ((z : Nat) : Int) = n := by omega
          rw [this]
          simp [h0u, hn]
      · obtain ⟨u, hu⟩ := list_get (show j < h'.length by have := hv'.len; have := (List.getElem?_eq_some_iff.1 hj').1; omega)
        exact ⟨u, hu, by have := hv'.wt j u hu hj'; exact this.1⟩
    · cases h2
theorem heights_rch {p : GProgram} (hp : RightP p) {m : GFunc} (hm : m ∈ p.funcs) {h : List Int} (hr : RunN p m (some h)) : ∀ (z : Nat) (u : Int), h[z]? = some u → 0 ≤ u → ∃ n, Rch m.code h n z := by
  have hF := (hp.all m hm).1
  have hc := hF.code
  refine run_rch hF.jumps hr (fun z u hz h0u => ?_) (fun j hj => ?_) (inv1 _) hp.normal h rfl
  · by_cases e : 0 = z
    · subst e; exact ⟨0, .zero⟩
    · unfold h0 at hz
      rw [List.getElem?_set_ne e, List.getElem?_replicate] at hz
      split at hz
      · cases hz; omega
      · cases hz
  · by_cases e : 0 = j
    · subst e
      refine ⟨0, ?_, Int.le_refl _⟩
      unfold h0
      rw [List.getElem?_set_self (by simp; omega)]
    · unfold w0 at hj
      rw [List.getElem?_set_ne e, List.getElem?_replicate] at hj
      split at hj <;> simp at hj
def maskOf (f : Nat → Bool) : Nat → B
  | 0 => 0#64
  | n + 1 => if f n = true then maskOf f n ||| bitB n else maskOf f n
theorem maskOf_get (f : Nat → Bool) : ∀ (n m : Nat), n ≤ 64 → (maskOf f n).getLsbD m = (decide (m < n) && f m)
  | 0, m, hn => by simp [maskOf]
  | n + 1, m, hn => by
    have ih := maskOf_get f n m (by omega)
    unfold maskOf
    split
    · rename_i hf
      rw [or_bit (by omega), ih]
      by_cases e : m = n
      · subst e; simp [hf]
      · have : decide (m < n + 1) = decide (m < n) := by simp only [decide_eq_decide]; omega
        rw [this]; simp [e]
    · rename_i hf
      rw [ih]
      by_cases e : m = n
      · subst e; simp [hf]
      · have : decide (m < n + 1) = decide (m < n) := by simp only [decide_eq_decide]; omega
        rw [this]
theorem meet_has {ds : List B} {b : Nat} : ∀ (ps : List Int) (m : B), (meet ds ps m).getLsbD b = true → ∀ p ∈ ps, (at0 ds p.toNat).getLsbD b = true
  | [], m, hm, p, hp => by cases hp
  | q :: ps, m, hm, p, hp => by
    rw [List.mem_cons] at hp
    rcases hp with rfl | hp
    · simp only [meet] at hm
      have := meet_into _ _ _ b hm
      rw [BitVec.getLsbD_and, Bool.and_eq_true] at this
      exact this.2
    · exact meet_has ps _ hm p hp
section
variable {m : GFunc} {h : List Int} {o : List B}
theorem DomOk.bit (hD : DomOk m h o) {x t : Nat} (hb : (at0 o x).getLsbD t = true) : x < m.code.length ∧ live h x = true := by
  by_cases hx : x < m.code.length
  · refine ⟨hx, ?_⟩
    cases e : live h x with
    | true => rfl
    | false => rw [hD.dead x hx e] at hb; simp at hb
  · have : at0 o x = 0#64 := by
      have hl := hD.len
      simp [at0, List.getElem?_eq_none (show o.length ≤ x by omega)]
    rw [this] at hb
    simp at hb
theorem DomOk.at_zero (hD : DomOk m h o) {t : Nat} (hb : (at0 o 0).getLsbD t = true) : t = 0 := by
  rw [hD.zero, BitVec.getLsbD_one] at hb
  simpa using hb
theorem DomOk.pred (hD : DomOk m h o) (hc : m.code.length ≤ 60) {x t : Nat} (hb : (at0 o x).getLsbD t = true) (hne : t ≠ x) {p : Int} (hp : p ∈ prs m h x) : (at0 o p.toNat).getLsbD t = true := by
  obtain ⟨hx, hv⟩ := hD.bit hb
  by_cases x0 : x = 0
  · subst x0; exact absurd (hD.at_zero hb) hne
  rw [← hD.fix x (by omega) hx hv] at hb
  unfold newB at hb
  rw [or_bit (by omega)] at hb
  simp only [hne, decide_false, Bool.or_false] at hb
  exact meet_has _ _ hb p hp
theorem hit_prs {z x : Nat} (hh : hit m.code h (z : Int) x = true) : (x : Int) ∈ prs m h z := predsUp_has hh _ (hit_lt hh)
theorem DomOk.before (hD : DomOk m h o) (hc : m.code.length ≤ 60) {n x : Nat} (r : Rch m.code h n x) : ∀ t, (at0 o x).getLsbD t = true → t ≠ x → ∃ k, k < n ∧ Rch m.code h k t := by
  induction r with
  | zero => intro t hb hne; exact absurd (hD.at_zero hb) hne
  | @step n y z h1 h2 ih =>
    intro t hb hne
    have hy := hD.pred hc hb hne (hit_prs h2)
    rw [Int.toNat_natCast] at hy
    by_cases e : t = y
    · subst e; exact ⟨n, by omega, h1⟩
    · obtain ⟨k, k1, k2⟩ := ih t hy e
      exact ⟨k, by omega, k2⟩
theorem DomOk.anti (hD : DomOk m h o) (hc : m.code.length ≤ 60) {a b : Nat} (h1 : (at0 o a).getLsbD b = true) (h2 : (at0 o b).getLsbD a = true) (hr : ∃ n, Rch m.code h n a) : a = b := by
  refine Classical.byContradiction fun hne => ?_
  have key : ∀ n, ¬ Rch m.code h n a ∧ ¬ Rch m.code h n b := by
    intro n
    induction n using Nat.strongRecOn with
    | ind n ih =>
      constructor
      · intro r
        obtain ⟨k, k1, k2⟩ := hD.before hc r b h1 (Ne.symm hne)
        exact (ih k k1).2 k2
      · intro r
        obtain ⟨k, k1, k2⟩ := hD.before hc r a h2 hne
        exact (ih k k1).1 k2
  obtain ⟨n, hn⟩ := hr
  exact (key n).1 hn
structure LB (m : GFunc) (h : List Int) (o : List B) (t : Nat) (M : B) : Prop where
  own : M.getLsbD t = true
  closed : Closed (prs m h) (bitB t) M
  least : ∀ S : B, S.getLsbD t = true → (∀ b ∈ prs m h t, (at0 o b.toNat).getLsbD t = true → S.getLsbD b.toNat = true) → Closed (prs m h) (bitB t) S → Sub M S
theorem LB.start {t : Nat} (ht : t < 64) : LB m h o t (bitB t) :=
  ⟨by rw [bitB_get _ _ ht]; simp, fun x h1 h2 => (by rw [h1] at h2; cases h2), fun S h1 _ _ n hn => by
    rw [bitB_get _ _ ht] at hn
    have : n = t := by simpa using hn
    subst this; exact h1⟩
theorem LB.more {t : Nat} {M R : B} (hL : LB m h o t M) {b : Nat} (hb : (b : Int) ∈ prs m h t) (hd : (at0 o b).getLsbD t = true) (hB : Body (prs m h) M [(b : Int)] R) (ht : t < 64) : LB m h o t R := by
  refine ⟨hB.sub _ hL.own, fun x h1 h2 p hp => ?_, fun S h1 h2 h3 => ?_⟩
  · cases e : M.getLsbD x with
    | true => exact hB.sub _ (hL.closed x e h2 p hp)
    | false => exact hB.closed x h1 e p hp
  · have k := hL.least S h1 h2 h3
    refine hB.least S k (fun v hv => ?_) (fun x k1 k2 p hp => h3 x k1 ?_ p hp)
    · rw [List.mem_singleton] at hv
      subst hv
      exact h2 _ hb (by simpa using hd)
    · rw [bitB_get _ _ ht]
      exact df (fun e => by subst e; rw [hL.own] at k2; cases k2)
theorem LB.dom {t : Nat} {M : B} (hL : LB m h o t M) (hD : DomOk m h o) (hc : m.code.length ≤ 60) (ht : t < m.code.length) (hv : live h t = true) {x : Nat} (hx : M.getLsbD x = true) : (at0 o x).getLsbD t = true := by
  have inn : ∀ x, (at0 o x).getLsbD t = true → (maskOf (fun x => (at0 o x).getLsbD t) 64).getLsbD x = true := fun x hx => by
    rw [maskOf_get _ _ _ (by omega), hx, dt (show x < 64 by have := (hD.bit hx).1; omega)]
    rfl
  have back : ∀ x, (maskOf (fun x => (at0 o x).getLsbD t) 64).getLsbD x = true → (at0 o x).getLsbD t = true := fun x hx => by
    rw [maskOf_get _ _ _ (by omega), Bool.and_eq_true] at hx
    exact hx.2
  refine back x (hL.least _ (inn _ (hD.own t ht hv)) (fun b hb hd => inn _ hd) (fun y h1 h2 p hp => inn _ (hD.pred hc (back y h1) ?_ hp)) x hx)
  rw [bitB_get _ _ (by omega)] at h2
  intro e
  subst e
  simp at h2
theorem LB.inside {t1 t2 : Nat} {M1 M2 : B} (h1 : LB m h o t1 M1) (h2 : LB m h o t2 M2) (hD : DomOk m h o) (hc : m.code.length ≤ 60) (ht1 : t1 < m.code.length) (ht2 : t2 < m.code.length) (hv1 : live h t1 = true) (hv2 : live h t2 = true)
    (hr : ∃ n, Rch m.code h n t1) (hin : M2.getLsbD t1 = true) (hne : t1 ≠ t2) : Sub M1 M2 ∧ M1.getLsbD t2 = false := by
  have hd2 := h2.dom hD hc ht2 hv2 hin
  have no : ¬ (at0 o t2).getLsbD t1 = true := fun e => hne (hD.anti hc hd2 e hr)
  constructor
  · have inn : ∀ x, (at0 o x).getLsbD t1 = true → (maskOf (fun x => (at0 o x).getLsbD t1) 64).getLsbD x = true := fun x hx => by
      rw [maskOf_get _ _ _ (by omega), hx, dt (show x < 64 by have := (hD.bit hx).1; omega)]
      rfl
    have back : ∀ x, (maskOf (fun x => (at0 o x).getLsbD t1) 64).getLsbD x = true → (at0 o x).getLsbD t1 = true := fun x hx => by
      rw [maskOf_get _ _ _ (by omega), Bool.and_eq_true] at hx
      exact hx.2
    have hbit : ∀ x t : Nat, t < 64 → x ≠ t → (bitB t).getLsbD x = false := fun x t ht hne => by rw [bitB_get _ _ ht]; exact df hne
    have := h1.least (M2 &&& maskOf (fun x => (at0 o x).getLsbD t1) 64) (by rw [BitVec.getLsbD_and, hin, inn _ (hD.own t1 ht1 hv1)]; rfl) (fun b hb hd => ?_) (fun y k1 k2 p hp => ?_)
    · intro n hn
      have := this n hn
      rw [BitVec.getLsbD_and, Bool.and_eq_true] at this
      exact this.1
    · rw [BitVec.getLsbD_and, inn _ hd, h2.closed t1 hin (hbit _ _ (by omega) hne) b hb]
      rfl
    · rw [BitVec.getLsbD_and, Bool.and_eq_true] at k1
      have hy := back y k1.2
      have hy1 : t1 ≠ y := fun e => by subst e; rw [bitB_get _ _ (by omega)] at k2; simp at k2
      rw [BitVec.getLsbD_and, inn _ (hD.pred hc hy hy1 hp), h2.closed y k1.1 (hbit _ _ (by omega) (fun e => by subst e; exact no hy)) p hp]
      rfl
  · cases e : M1.getLsbD t2 with
    | false => rfl
    | true => exact absurd (h1.dom hD hc ht1 hv1 e) no
theorem LB.share {t1 t2 : Nat} {M1 M2 : B} (h1 : LB m h o t1 M1) (h2 : LB m h o t2 M2) (hD : DomOk m h o) (hc : m.code.length ≤ 60) (ht1 : t1 < m.code.length) (ht2 : t2 < m.code.length) (hv1 : live h t1 = true) (hv2 : live h t2 = true)
    {n x : Nat} (hr : Rch m.code h n x) : M1.getLsbD x = true → M2.getLsbD x = true → M2.getLsbD t1 = true ∨ M1.getLsbD t2 = true := by
  have hbit : ∀ x t : Nat, t < 64 → x ≠ t → (bitB t).getLsbD x = false := fun x t ht hne => by rw [bitB_get _ _ ht]; exact df hne
  induction hr with
  | zero =>
    intro k1 k2
    have := hD.at_zero (h1.dom hD hc ht1 hv1 k1)
    subst this
    exact .inl k2
  | @step n y z r1 r2 ih =>
    intro k1 k2
    by_cases e1 : z = t1
    · subst e1; exact .inl k2
    by_cases e2 : z = t2
    · subst e2; exact .inr k1
    have a1 := h1.closed z k1 (hbit _ _ (by omega) e1) _ (hit_prs r2)
    have a2 := h2.closed z k2 (hbit _ _ (by omega) e2) _ (hit_prs r2)
    rw [Int.toNat_natCast] at a1 a2
    exact ih a1 a2
end
section
variable {p : GProgram} {hs : List (List Int)} {f : Nat} {m : GFunc} {h : List Int} {tab : List (List Int)} {ds : List B}
theorem body_spec (H : Hand p hs f m h tab ds) (M : B) {x : Nat} (hx : x < m.code.length) :
    ∃ R, Ev (fun k => spec_l17Body k tab M.toInt (x : Int)) R.toInt ∧ Body (prs m h) M [(x : Int)] R := by
  have hc := H.fn.code
  obtain ⟨R, r1, r2⟩ := specBody hc.2 H.pr H.tab_.row _ _ M [(x : Int)] rfl rfl (by have := free_top M; simp; omega) (fun q hq => ⟨x, by simpa using hq, hx⟩)
  exact ⟨R, Ev.bind r1 Ev.pure, r2⟩
theorem edges_spec (H : Hand p hs f m h tab ds) {t : Nat} (ht : t < m.code.length) (L : List GI3) :
    ∀ (ns pre : List Int) (M : B) (c : Bool), pre ++ ns = prs m h t → LB m h ds t M → (c = false → M = bitB t) →
    ∃ M' c', LB m h ds t M' ∧ (c' = true → live h t = true ∨ c = true) ∧
      Ev (fun k => spec_Loops.l3 k tab (tI ds) L (t : Int) (if c then M else 0#64).toInt (pre.length : Int)) (tab, tI ds, L, (t : Int), (if c' then M' else 0#64).toInt)
  | [], pre, M, c, e, h1, h2 => by
    have hrow := H.tab_.row t ht
    have el : pre.length = (prs m h t).length := by rw [← e]; simp
    refine ⟨M, c, h1, .inr, ?_⟩
    refine Ev.succ ?_
    simp only [spec_Loops.l3]
    refine Ev.idx hrow (Ev.cf (df (by show ¬ (pre.length : Int) < ((prs m h t).length : Int); omega)) ?_)
    rw [Int.toNat_natCast, set_same hrow]
    exact Ev.pure
  | q :: ns, pre, M, c, e, h1, h2 => by
    have hc := H.fn.code
    have hrow : tab[t]? = some (prs m h t) := H.tab_.row t ht
    have hmid : (prs m h t)[pre.length]? = some q := by rw [← e]; exact at_mid pre q ns
    have hlen : (prs m h t).length = pre.length + 1 + ns.length := by rw [← e]; simp; omega
    have hshort : (prs m h t).length ≤ 60 := H.pr.short t
    have plen : ((pre.length + 1 : Nat) : Int) = ((pre ++ [q]).length : Int) := by simp
    have hqm : q ∈ prs m h t := by rw [← e]; simp
    obtain ⟨n, rfl, hn⟩ := H.pr.mem t q hqm
    have hlv : live h t = true := H.goes t ht (by rw [← e]; simp)
    have hds := H.inv.size
    obtain ⟨v, hv⟩ := list_get (show n < ds.length by omega)
    obtain ⟨w, hw⟩ := list_get (show t < ds.length by omega)
    have hown : w.getLsbD t = true := by have := H.inv.own t ht hlv; rwa [at0_of hw] at this
    have hw0 : (w.toInt != 0) = true := by
      rw [show (0 : Int) = (0#64 : B).toInt from by decide, toInt_ne]
      exact bne_iff_ne.2 fun e => by rw [e] at hown; simp at hown
    have hor : ((if c then M else 0#64) ||| bitB t) = M := by
      cases c with
      | false => rw [h2 rfl]; simp
      | true =>
        apply BitVec.eq_of_getLsbD_eq
        intro i hi
        simp only [if_true]
        rw [or_bit (by omega)]
        by_cases e : i = t
        · subst e; simp [h1.own]
        · simp [e]
    have e' : (pre ++ [(n : Int)]) ++ ns = prs m h t := by rw [← e]; simp
    have hset : tab.set ((t : Int)).toNat (prs m h t) = tab := by rw [Int.toNat_natCast, set_same hrow]
    cases hb : v.getLsbD t with
    | true =>
      obtain ⟨R, r1, r2⟩ := body_spec H M hn
      have hR := h1.more hqm (by rw [at0_of hv]; exact hb) r2 (by omega)
      obtain ⟨M', c', g1, g2, g3⟩ := edges_spec H ht L ns (pre ++ [(n : Int)]) R true e' hR (fun h => by cases h)
      refine ⟨M', c', g1, fun _ => .inl hlv, ?_⟩
      refine Ev.succ ?_
      simp only [spec_Loops.l3]
      refine Ev.idx hrow (Ev.ct (dt (by omega)) (Ev.idx hmid (Ev.idx (tI_get hw) (Ev.ct hw0 (Ev.idx (tI_get hv) (Ev.bind (Ev.const (bit_ev t (by omega))) ?_))))))
      rw [test_ne _ _ (by omega), hset, wrap_nat (by omega), plen]
      refine Ev.ct hb (Ev.bind (Ev.const (bit_ev t (by omega))) ?_)
      rw [ior_t, hor]
      exact Ev.bind r1 g3
    | false =>
      obtain ⟨M', c', g1, g2, g3⟩ := edges_spec H ht L ns (pre ++ [(n : Int)]) M c e' h1 h2
      refine ⟨M', c', g1, fun _ => .inl hlv, ?_⟩
      refine Ev.succ ?_
      simp only [spec_Loops.l3]
      refine Ev.idx hrow (Ev.ct (dt (by omega)) (Ev.idx hmid (Ev.idx (tI_get hw) (Ev.ct hw0 (Ev.idx (tI_get hv) (Ev.bind (Ev.const (bit_ev t (by omega))) ?_))))))
      rw [test_ne _ _ (by omega), hset, wrap_nat (by omega), plen]
      exact Ev.cf hb g3
end
structure LsOk (Ls : List (Nat × B)) (C : Nat → Nat) (L : List GI3) : Prop where
  len : L.length = Ls.length
  at_ : ∀ j x, Ls[j]? = some x → L[j]? = some (⟨(x.1 : Int), x.2.toInt, (C j : Int)⟩ : GI3)
structure LsGood (m : GFunc) (h : List Int) (o : List B) (t : Nat) (Ls : List (Nat × B)) : Prop where
  all : ∀ x ∈ Ls, x.1 < t ∧ live h x.1 = true ∧ LB m h o x.1 x.2
  up : Ls.Pairwise (fun a b => a.1 < b.1)
theorem LsOk.push {Ls : List (Nat × B)} {C : Nat → Nat} {L : List GI3} (hk : LsOk Ls C L) (x : Nat × B) (hC : C Ls.length = 0) : LsOk (Ls ++ [x]) C (L ++ [⟨(x.1 : Int), x.2.toInt, 0⟩]) := by
  refine ⟨by simp [hk.len], fun j y hj => ?_⟩
  rw [List.getElem?_append] at hj ⊢
  rw [hk.len]
  split at hj
  · rename_i hlt
    rw [if_pos hlt]
    exact hk.at_ j y hj
  · rename_i hlt
    rw [if_neg hlt]
    rw [List.getElem?_singleton] at hj ⊢
    split at hj
    · rename_i e
      cases hj
      rw [if_pos e]
      have : j = Ls.length := by omega
      subst this
      rw [hC]
      rfl
    · cases hj
section
variable {p : GProgram} {hs : List (List Int)} {f : Nat} {m : GFunc} {h : List Int} {tab : List (List Int)} {ds : List B}
theorem heads_spec (H : Hand p hs f m h tab ds) :
    ∀ (d t : Nat) (Ls : List (Nat × B)) (L : List GI3), m.code.length - t = d → t ≤ m.code.length → Ls.length ≤ t → LsOk Ls (fun _ => 0) L → LsGood m h ds t Ls →
    ∃ Ls' L', Ev (fun k => spec_Loops.l1 k tab (tI ds) L (t : Int)) L' ∧ Ls'.length ≤ 60 ∧ LsOk Ls' (fun _ => 0) L' ∧ LsGood m h ds m.code.length Ls'
  | 0, t, Ls, L, hd, ht, hL, hok, hg => by
    have hc := H.fn.code
    have hds := H.inv.size
    have et : t = m.code.length := by omega
    refine ⟨Ls, L, ?_, by omega, hok, et ▸ hg⟩
    refine Ev.succ ?_
    simp only [spec_Loops.l1]
    exact Ev.cf (df (by simp [tI]; omega)) Ev.pure
  | d + 1, t, Ls, L, hd, ht, hL, hok, hg => by
    have hc := H.fn.code
    have hds := H.inv.size
    have htl : t < m.code.length := by omega
    obtain ⟨M', c', g1, g2, g3⟩ := edges_spec H htl L (prs m h t) [] (bitB t) false rfl (LB.start (by omega)) (fun _ => rfl)
    have z0 : (0#64 : B).toInt = 0 := by decide
    simp only [List.length_nil, Bool.false_eq_true, if_false, z0] at g3
    have hne : ((if c' then M' else 0#64 : B).toInt != 0) = c' := by
      rw [show (0 : Int) = (0#64 : B).toInt from by decide, toInt_ne]
      cases c' with
      | false => simp
      | true =>
        simp only [if_true]
        exact bne_iff_ne.2 fun e => by have := g1.own; rw [e] at this; simp at this
    have hl := hok.len
    have hs2 : Ev (fun k => spec_Loops.a2 k tab (tI ds) L (t : Int)) (tab, tI ds, (if c' then L ++ [⟨(t : Int), M'.toInt, 0⟩] else L), (t : Int)) := by
      unfold spec_Loops.a2
      refine Ev.bind g3 ?_
      simp only []
      rw [hne]
      cases c' with
      | false => exact Ev.cf rfl Ev.pure
      | true => exact Ev.ct rfl (Ev.gd ⟨by omega, by omega⟩ Ev.pure)
    have next : ∃ Ls1 : List (Nat × B), Ls1.length ≤ t + 1 ∧ LsOk Ls1 (fun _ => 0) (if c' then L ++ [⟨(t : Int), M'.toInt, 0⟩] else L) ∧ LsGood m h ds (t + 1) Ls1 := by
      cases c' with
      | false => exact ⟨Ls, by omega, by simpa using hok, ⟨fun x hx => by have := hg.all x hx; exact ⟨by omega, this.2⟩, hg.up⟩⟩
      | true =>
        refine ⟨Ls ++ [(t, M')], by simp; omega, by simpa using hok.push (t, M') rfl, fun x hx => ?_, ?_⟩
        · rw [List.mem_append, List.mem_singleton] at hx
          rcases hx with hx | rfl
          · have := hg.all x hx; exact ⟨by omega, this.2⟩
          · exact ⟨by simp, by simpa using g2 rfl, g1⟩
        · rw [List.pairwise_append]
          refine ⟨hg.up, by simp, fun a ha b hb => ?_⟩
          rw [List.mem_singleton] at hb
          subst hb
          exact (hg.all a ha).1
    obtain ⟨Ls1, n1, n2, n3⟩ := next
    obtain ⟨Ls', L', k1, k2, k3, k4⟩ := heads_spec H d (t + 1) Ls1 _ (by omega) (by omega) n1 n2 n3
    refine ⟨Ls', L', ?_, k2, k3, k4⟩
    refine Ev.succ ?_
    simp only [spec_Loops.l1]
    refine Ev.ct (dt (by simp [tI]; omega)) (Ev.bind hs2 ?_)
    simp only []
    rw [wrap_nat (by omega)]
    exact k1
end
def cnt (l : List (Nat × B)) (t : Nat) : Nat := (l.filter fun y => y.2.getLsbD t).length
theorem deep_spec {Ls : List (Nat × B)} (hlen : Ls.length ≤ 60) (hhead : ∀ x ∈ Ls, x.1 < 60) {i : Nat} {xi : Nat × B} (hi : Ls[i]? = some xi) : ∀ (d j : Nat) (L : List GI3) (C : Nat → Nat), Ls.length - j = d → j ≤ Ls.length → C i ≤ j → LsOk Ls C L →
    ∃ L', Ev (fun k => spec_Loops.l5 k L (i : Int) (j : Int)) (L', (i : Int)) ∧ LsOk Ls (fun n => if n = i then C i + cnt (Ls.drop j) xi.1 else C n) L'
  | 0, j, L, C, hd, hj, hC, hok => by
    have hl := hok.len
    refine ⟨L, ?_, hok.len, fun n x hn => ?_⟩
    · refine Ev.succ ?_
      simp only [spec_Loops.l5]
      exact Ev.cf (df (by omega)) Ev.pure
    · rw [hok.at_ n x hn, List.drop_eq_nil_of_le (by omega)]
      simp only [cnt, List.filter_nil, List.length_nil, Nat.add_zero]
      split
      · rename_i e; rw [e]
      · rfl
  | d + 1, j, L, C, hd, hj, hC, hok => by
    have hl := hok.len
    obtain ⟨xj, hxj⟩ := list_get (show j < Ls.length by omega)
    have hLj := hok.at_ j xj hxj
    have hLi := hok.at_ i xi hi
    have h60 := hhead xi (List.mem_of_getElem? hi)
    have hdrop : Ls.drop j = xj :: Ls.drop (j + 1) := by
      obtain ⟨g1, g2⟩ := List.getElem?_eq_some_iff.1 hxj
      rw [List.drop_eq_getElem_cons g1, g2]
    cases hb : xj.2.getLsbD xi.1 with
    | true =>
      have hil : i < Ls.length := (List.getElem?_eq_some_iff.1 hi).1
      obtain ⟨L', k1, k2⟩ := deep_spec hlen hhead hi d (j + 1) (L.set i ⟨(xi.1 : Int), xi.2.toInt, ((C i + 1 : Nat) : Int)⟩) (fun n => if n = i then C i + 1 else C n) (by omega) (by omega) (by simp; omega) (by
        refine ⟨by simp [hl], fun n x hn => ?_⟩
        rw [List.getElem?_set]
        by_cases e : i = n
        · subst e
          rw [hi] at hn
          cases hn
          simp [hl, hil]
        · rw [if_neg e, hok.at_ n x hn]
          simp [Ne.symm e])
      refine ⟨L', ?_, ?_⟩
      · refine Ev.succ ?_
        simp only [spec_Loops.l5]
        refine Ev.ct (dt (by omega)) (Ev.idx hLj (Ev.idx hLi (Ev.bind (Ev.const (bit_ev xi.1 (by omega))) ?_)))
        rw [test_ne _ _ (by omega)]
        refine Ev.ct hb ?_
        rw [wrap_nat (by omega), wrap_nat (by omega), Int.toNat_natCast]
        exact k1
      · have e : (fun n => if n = i then C i + cnt (Ls.drop j) xi.1 else C n) = (fun n => if n = i then (fun n => if n = i then C i + 1 else C n) i + cnt (Ls.drop (j + 1)) xi.1 else (fun n => if n = i then C i + 1 else C n) n) := by
          funext n
          split
          · rw [hdrop]
            simp only [cnt, List.filter_cons, hb, if_true, List.length_cons]
            omega
          · rename_i e; simp [e]
        rw [e]
        exact k2
    | false =>
      obtain ⟨L', k1, k2⟩ := deep_spec hlen hhead hi d (j + 1) L C (by omega) (by omega) (by omega) hok
      refine ⟨L', ?_, ?_⟩
      · refine Ev.succ ?_
        simp only [spec_Loops.l5]
        refine Ev.ct (dt (by omega)) (Ev.idx hLj (Ev.idx hLi (Ev.bind (Ev.const (bit_ev xi.1 (by omega))) ?_)))
        rw [test_ne _ _ (by omega)]
        refine Ev.cf hb ?_
        rw [wrap_nat (by omega)]
        exact k1
      · have e : cnt (Ls.drop j) xi.1 = cnt (Ls.drop (j + 1)) xi.1 := by
          rw [hdrop]
          simp only [cnt, List.filter_cons, hb, Bool.false_eq_true, if_false]
        rw [e]
        exact k2
theorem depths_spec {Ls : List (Nat × B)} (hlen : Ls.length ≤ 60) (hhead : ∀ x ∈ Ls, x.1 < 60) : ∀ (d i : Nat) (L : List GI3) (C : Nat → Nat), Ls.length - i = d → i ≤ Ls.length → (∀ j x, j < i → Ls[j]? = some x → C j = cnt Ls x.1) → (∀ j, i ≤ j → C j = 0) → LsOk Ls C L →
    ∃ L' C', Ev (fun k => spec_Loops.l4 k L (i : Int)) L' ∧ LsOk Ls C' L' ∧ ∀ j x, Ls[j]? = some x → C' j = cnt Ls x.1
  | 0, i, L, C, hd, hi, h1, h2, hok => by
    have hl := hok.len
    refine ⟨L, C, ?_, hok, fun j x hx => h1 j x (by have := (List.getElem?_eq_some_iff.1 hx).1; omega) hx⟩
    refine Ev.succ ?_
    simp only [spec_Loops.l4]
    exact Ev.cf (df (by omega)) Ev.pure
  | d + 1, i, L, C, hd, hi, h1, h2, hok => by
    have hl := hok.len
    obtain ⟨xi, hxi⟩ := list_get (show i < Ls.length by omega)
    obtain ⟨L1, k1, k2⟩ := deep_spec hlen hhead hxi Ls.length 0 L C (by omega) (by omega) (by rw [h2 i (Nat.le_refl _)]; omega) hok
    obtain ⟨L', C', g1, g2, g3⟩ := depths_spec hlen hhead d (i + 1) L1 _ (by omega) (by omega) (fun j x hj hx => by
      by_cases e : j = i
      · subst e
        rw [hxi] at hx
        cases hx
        simp [h2 j (Nat.le_refl _)]
      · simp only [e, if_false]
        exact h1 j x (by omega) hx) (fun j hj => by
      have : j ≠ i := by omega
      simp only [this, if_false]
      exact h2 j (by omega)) k2
    refine ⟨L', C', ?_, g2, g3⟩
    refine Ev.succ ?_
    simp only [spec_Loops.l4]
    refine Ev.ct (dt (by omega)) (Ev.bind k1 ?_)
    simp only []
    rw [wrap_nat (by omega)]
    exact g1
structure LoopsAre (m : GFunc) (h : List Int) (o : List B) (Ls : List (Nat × B)) (C : Nat → Nat) (L : List GI3) : Prop where
  code : 1 ≤ m.code.length ∧ m.code.length ≤ 60
  dom : DomOk m h o
  rch : ∀ z, live h z = true → ∃ n, Rch m.code h n z
  good : LsGood m h o m.code.length Ls
  ok : LsOk Ls C L
  len : Ls.length ≤ 60
  cnt_ : ∀ j x, Ls[j]? = some x → C j = cnt Ls x.1
theorem loops_what {p : GProgram} (ha : Args64 p) (hn : p.funcs.length ≤ 1048576) (f : Int) :
    (∃ (m : GFunc) (h : List Int) (o : List B) (Ls : List (Nat × B)) (C : Nat → Nat) (L : List GI3), LoopsAre m h o Ls C L ∧
      Ev (fun k => impl_Loops k p f) L ∧ Ev (fun k => spec_Loops k p f) L ∧ Ev (fun k => spec_Doms k p f) (tI o)) ∨
    (Ev (fun k => impl_Loops k p f) [] ∧ Ev (fun k => spec_Loops k p f) [] ∧ Ev (fun k => spec_Doms k p f) []) := by
  obtain ⟨hs, ok, k1, k2, k3⟩ := knownFunc_ev ha hn f
  obtain ⟨ok2, s1, s2⟩ := specIs_ev ha hn f
  obtain ⟨l, b1, b2, b3⟩ := loops_both ha hn f
  by_cases c : RightP p ∧ 0 ≤ f ∧ f < (p.funcs.length : Int)
  · left
    have e2 : ok2 = true := s2.2 c
    subst e2
    obtain ⟨hp, hf0, hf1⟩ := c
    obtain ⟨n, rfl⟩ := Int.eq_ofNat_of_zero_le hf0
    obtain ⟨m, hm⟩ := list_get (show n < p.funcs.length by omega)
    have hmem := List.mem_of_getElem? hm
    have hform := (hp.all m hmem).1
    have hc := hform.code
    obtain ⟨h, hh, hr, hl⟩ := (k3 hp).at_ n m hm
    have hF : Fn p n m h := ⟨hm, hl, hc⟩
    obtain ⟨o, o1, o2⟩ := rounds_ex (by omega) hc.1 _ _ rfl (start_inv hF)
    obtain ⟨out, t1, t2⟩ := specPredsTab ha hp hm hr hl
    obtain ⟨hpast, hA, h00⟩ := heights_past hp hmem hr
    have H : Hand p hs n m h out o := by
      refine ⟨hF, hh, t2, o2, fun t ht hne => ?_⟩
      obtain ⟨q, hq⟩ := List.exists_mem_of_ne_nil _ hne
      obtain ⟨x, hx, -, hhit⟩ := predsUp_mem hq
      unfold hit at hhit
      split at hhit
      · rename_i i y hi hy
        rw [Bool.and_eq_true] at hhit
        have hy0 : 0 ≤ y := by simpa using hhit.1
        have hmem2 : (t : Int) ∈ nextL i (x : Int) := by simpa using hhit.2
        have hP := hpast x i y hi hy hy0
        have hnt := (hP.2.2 (t : Int) hmem2).2
        rw [Int.toNat_natCast] at hnt
        rw [live_of hnt]
        have hpu := putsL_range i
        have := hP.1
        exact dt (by omega)
      · cases hhit
    obtain ⟨Ls, L1, g1, g2, g3, g4⟩ := heads_spec H _ 0 [] [] rfl (by omega) (by simp) ⟨rfl, fun j x hx => by simp at hx⟩ ⟨fun x hx => absurd hx (by simp), by simp⟩
    obtain ⟨L2, C, d1, d2, d3⟩ := depths_spec g2 (fun x hx => by have := (g4.all x hx).1; omega) _ 0 L1 (fun _ => 0) rfl (by omega) (fun j x hj _ => by omega) (fun _ _ => rfl) g3
    have hspec : Ev (fun k => spec_Loops k p ((n : Nat) : Int)) L2 := by
      unfold spec_Loops
      exact Ev.bind s1 (Ev.cf rfl (Ev.bind t1 (Ev.bind (specDoms ha hp hF hr o1) (Ev.bind g1 (Ev.bind d1 Ev.pure)))))
    have := Ev.unique hspec b2
    subst this
    refine ⟨m, h, o, Ls, C, L2, ⟨hc, dom_ok hF h00 o1 o2, fun z hz => ?_, g4, d2, g2, d3⟩, b1, b2, ?_⟩
    · unfold live at hz
      split at hz
      · rename_i u hu
        exact heights_rch hp hmem hr z u hu (by simpa using hz)
      · cases hz
    · unfold spec_Doms
      exact Ev.bind s1 (Ev.cf rfl (Ev.bind (specDoms ha hp hF hr o1) Ev.pure))
  · right
    have e2 : ok2 = false := by cases ok2 with | false => rfl | true => exact absurd (s2.1 rfl) c
    subst e2
    have hspec : Ev (fun k => spec_Loops k p f) [] := by
      unfold spec_Loops
      exact Ev.bind s1 (Ev.ct rfl Ev.pure)
    have := Ev.unique hspec b2
    subst this
    refine ⟨b1, b2, ?_⟩
    unfold spec_Doms
    exact Ev.bind s1 (Ev.ct rfl Ev.pure)
section
variable {m : GFunc} {h : List Int} {o : List B} {Ls : List (Nat × B)} {C : Nat → Nat} {L : List GI3}
theorem up_ne {Ls : List (Nat × B)} (hu : Ls.Pairwise (fun a b => a.1 < b.1)) {i j : Nat} {x y : Nat × B} (hi : Ls[i]? = some x) (hj : Ls[j]? = some y) (hij : i < j) : x.1 < y.1 := by
  obtain ⟨i1, rfl⟩ := List.getElem?_eq_some_iff.1 hi
  obtain ⟨j1, rfl⟩ := List.getElem?_eq_some_iff.1 hj
  exact List.pairwise_iff_getElem.1 hu i j i1 j1 hij
theorem LoopsAre.same (A : LoopsAre m h o Ls C L) {x y : Nat × B} (hx : x ∈ Ls) (hy : y ∈ Ls) (e : x.1 = y.1) : x = y := by
  obtain ⟨i, hi⟩ := List.mem_iff_getElem?.1 hx
  obtain ⟨j, hj⟩ := List.mem_iff_getElem?.1 hy
  rcases Nat.lt_trichotomy i j with k | k | k
  · have := up_ne A.good.up hi hj k; omega
  · subst k; rw [hi] at hj; cases hj; rfl
  · have := up_ne A.good.up hj hi k; omega
theorem LoopsAre.inside (A : LoopsAre m h o Ls C L) {x y : Nat × B} (hx : x ∈ Ls) (hy : y ∈ Ls) (hne : x.1 ≠ y.1) (hin : y.2.getLsbD x.1 = true) : Sub x.2 y.2 ∧ x.2.getLsbD y.1 = false := by
  obtain ⟨a1, a2, a3⟩ := A.good.all x hx
  obtain ⟨b1, b2, b3⟩ := A.good.all y hy
  exact a3.inside b3 A.dom A.code.2 a1 b1 a2 b2 (A.rch _ a2) hin hne
theorem filter_lt2 {α : Type} {p q : α → Bool} {l : List α} (h1 : ∀ x ∈ l, q x = true → p x = true) (h2 : ∃ x ∈ l, p x = true ∧ q x = false) : (l.filter q).length < (l.filter p).length := filter_lt l h1 h2
theorem LoopsAre.deeper (A : LoopsAre m h o Ls C L) {x y : Nat × B} (hx : x ∈ Ls) (hy : y ∈ Ls) (hne : x.1 ≠ y.1) (hin : y.2.getLsbD x.1 = true) : cnt Ls y.1 < cnt Ls x.1 := by
  have hi := A.inside hx hy hne hin
  refine filter_lt2 (fun z hz hzy => ?_) ⟨x, hx, ?_, hi.2⟩
  · by_cases e : y.1 = z.1
    · have := A.same hy hz e
      subst this
      exact hin
    · exact (A.inside hy hz e hzy).1 _ hin
  · exact (A.good.all x hx).2.2.own
theorem LoopsAre.share (A : LoopsAre m h o Ls C L) {x y : Nat × B} (hx : x ∈ Ls) (hy : y ∈ Ls) (hne : x.2 &&& y.2 ≠ 0#64) : y.2.getLsbD x.1 = true ∨ x.2.getLsbD y.1 = true := by
  obtain ⟨a1, a2, a3⟩ := A.good.all x hx
  obtain ⟨b1, b2, b3⟩ := A.good.all y hy
  have : ∃ z, (x.2 &&& y.2).getLsbD z = true := by
    refine Classical.byContradiction fun hno => hne ?_
    apply BitVec.eq_of_getLsbD_eq
    intro i hi
    cases e : (x.2 &&& y.2).getLsbD i with
    | true => exact absurd ⟨i, e⟩ hno
    | false => simp
  obtain ⟨z, hz⟩ := this
  rw [BitVec.getLsbD_and, Bool.and_eq_true] at hz
  have hzl := (A.dom.bit (a3.dom A.dom A.code.2 a1 a2 hz.1)).2
  obtain ⟨n, hn⟩ := A.rch z hzl
  exact a3.share b3 A.dom A.code.2 a1 b1 a2 b2 hn hz.1 hz.2
theorem sub_and {a b : B} : Sub a b → b &&& a = a := fun h => by rw [BitVec.and_comm]; exact h.and
theorem and_sub {a b : B} (e : a &&& b = b) : Sub b a := fun n hn => by
  rw [← e, BitVec.getLsbD_and, Bool.and_eq_true] at hn
  exact hn.1
end
def nst (a b : B) : Bool := if (a &&& b == b) = true then a != b else false
theorem toInt_eq (a b : B) : (a.toInt == b.toInt) = (a == b) := by
  have := toInt_ne a b
  have e1 : (a.toInt == b.toInt) = !(a.toInt != b.toInt) := by simp [bne]
  have e2 : (a == b) = !(a != b) := by simp [bne]
  rw [e1, e2, this]
theorem nested_ev (a c a' c' : Int) (b b' : B) : impl_Nested ⟨a, b.toInt, c⟩ ⟨a', b'.toInt, c'⟩ = some (nst b b') := by
  unfold impl_Nested nst
  simp only []
  rw [iand_t, toInt_eq, toInt_ne]
  cases e : (b &&& b' == b') <;> simp
theorem nst_sub {a b : B} (h : nst a b = true) : Sub b a ∧ a ≠ b := by
  unfold nst at h
  split at h
  · rename_i e
    exact ⟨and_sub (by simpa using e), bne_iff_ne.1 h⟩
  · cases h
theorem nst_of {a b : B} (h : Sub b a) {n : Nat} (h1 : a.getLsbD n = true) (h2 : b.getLsbD n = false) : nst a b = true := by
  unfold nst
  rw [if_pos (by rw [sub_and h]; simp)]
  exact bne_iff_ne.2 fun e => by rw [e, h2] at h1; cases h1
section
variable {m : GFunc} {h : List Int} {o : List B} {Ls : List (Nat × B)} {C : Nat → Nat} {L : List GI3}
theorem LoopsAre.two (A : LoopsAre m h o Ls C L) {i j : Nat} {x y : Nat × B} (hi : Ls[i]? = some x) (hj : Ls[j]? = some y) (hij : j < i) :
    ((x.2 &&& y.2 ≠ 0#64) → nst x.2 y.2 = true ∨ nst y.2 x.2 = true) ∧ (nst x.2 y.2 = true → C i < C j) ∧ (nst y.2 x.2 = true → C j < C i) := by
  have hx := List.mem_of_getElem? hi
  have hy := List.mem_of_getElem? hj
  have hlt := up_ne A.good.up hj hi hij
  have ox := (A.good.all x hx).2.2.own
  have oy := (A.good.all y hy).2.2.own
  refine ⟨fun hne => ?_, fun hn => ?_, fun hn => ?_⟩
  · rcases A.share hx hy hne with k | k
    · have := A.inside hx hy (by omega) k
      exact .inr (nst_of this.1 oy this.2)
    · have := A.inside hy hx (by omega) k
      exact .inl (nst_of this.1 ox this.2)
  · rw [A.cnt_ i x hi, A.cnt_ j y hj]
    exact A.deeper hy hx (by omega) ((nst_sub hn).1 _ oy)
  · rw [A.cnt_ i x hi, A.cnt_ j y hj]
    exact A.deeper hx hy (by omega) ((nst_sub hn).1 _ ox)
theorem loops_pairs (A : LoopsAre m h o Ls C L) {i : Nat} {x : Nat × B} (hi : Ls[i]? = some x) (D : List Int) : ∀ (d j : Nat), i - j = d → j ≤ i → Ev (fun k => laws_FnLoops.l5 k L L D (i : Int) (j : Int)) (.inr (L, L, D, (i : Int)))
  | 0, j, hd, hj => by
    refine Ev.succ ?_
    simp only [laws_FnLoops.l5]
    exact Ev.cf (df (by omega)) Ev.pure
  | d + 1, j, hd, hj => by
    have hil : i < Ls.length := (List.getElem?_eq_some_iff.1 hi).1
    have hl := A.len
    obtain ⟨y, hy⟩ := list_get (show j < Ls.length by omega)
    have next := loops_pairs A hi D d (j + 1) (by omega) (by omega)
    obtain ⟨t1, t2, t3⟩ := A.two hi hy (by omega)
    refine Ev.succ ?_
    simp only [laws_FnLoops.l5]
    refine Ev.ct (dt (by omega)) (Ev.idx (A.ok.at_ i x hi) (Ev.idx (A.ok.at_ j y hy) (Ev.bind (Ev.const (nested_ev _ _ _ _ _ _)) (Ev.bind (Ev.const (nested_ev _ _ _ _ _ _)) ?_))))
    simp only []
    rw [iand_t, show (0 : Int) = (0#64 : B).toInt from by decide, toInt_ne, wrap_nat (by omega)]
    cases e1 : nst x.2 y.2 with
    | true =>
      have := t2 e1
      have d1 : decide ((C i : Int) ≥ (C j : Int)) = false := df (by omega)
      have e2 : nst y.2 x.2 = false := by
        cases e : nst y.2 x.2 with
        | false => rfl
        | true => have := t3 e; omega
      simp only [e2, d1, Bool.not_true, Bool.not_false, cond_true, cond_false]
      cases (x.2 &&& y.2 != 0#64) <;> exact next
    | false =>
      cases e2 : nst y.2 x.2 with
      | true =>
        have := t3 e2
        have d1 : decide ((C j : Int) ≥ (C i : Int)) = false := df (by omega)
        simp only [d1, Bool.not_true, Bool.not_false, cond_true, cond_false]
        cases (x.2 &&& y.2 != 0#64) <;> exact next
      | false =>
        have e0 : (x.2 &&& y.2 != 0#64) = false := by
          cases e : (x.2 &&& y.2 != 0#64) with
          | false => rfl
          | true =>
            rcases t1 (bne_iff_ne.1 e) with k | k
            · rw [e1] at k; cases k
            · rw [e2] at k; cases k
        rw [e0]
        exact next
theorem loops_ahead (A : LoopsAre m h o Ls C L) {i : Nat} {x : Nat × B} (hi : Ls[i]? = some x) : ∀ (d a : Nat), m.code.length - a = d → a ≤ m.code.length → Ev (fun k => laws_FnLoops.l4 k L L (tI o) (i : Int) (a : Int)) (.inr (L, L, tI o, (i : Int)))
  | 0, a, hd, ha => by
    have hl := A.dom.len
    refine Ev.succ ?_
    simp only [laws_FnLoops.l4]
    exact Ev.cf (df (by simp [tI]; omega)) Ev.pure
  | d + 1, a, hd, ha => by
    have hl := A.dom.len
    have hc := A.code
    have next := loops_ahead A hi d (a + 1) (by omega) (by omega)
    obtain ⟨g1, g2, g3⟩ := A.good.all x (List.mem_of_getElem? hi)
    obtain ⟨v, hv⟩ := list_get (show a < o.length by omega)
    refine Ev.succ ?_
    simp only [laws_FnLoops.l4]
    refine Ev.ct (dt (by simp [tI]; omega)) (Ev.idx (A.ok.at_ i x hi) ?_)
    simp only []
    rw [u64_nat (by omega), u64_nat (by omega), wrap_nat (by omega)]
    refine Ev.gd (by omega) ?_
    rw [test_t _ _ (by omega)]
    cases e : x.2.getLsbD a with
    | false => exact Ev.cf (by simp) next
    | true =>
      have hb := g3.dom A.dom hc.2 g1 g2 e
      rw [at0_of hv] at hb
      refine Ev.ct (by simp) (Ev.idx (tI_get hv) (Ev.gd (by omega) ?_))
      rw [test_t _ _ (by omega), hb]
      exact Ev.cf (by simp) next
theorem loops_one (A : LoopsAre m h o Ls C L) {i : Nat} {x : Nat × B} (hi : Ls[i]? = some x) : Ev (fun k => laws_FnLoops.a2 k L L (tI o) (i : Int)) (.inr (L, L, tI o, (i : Int))) := by
  have hc := A.code
  obtain ⟨g1, g2, g3⟩ := A.good.all x (List.mem_of_getElem? hi)
  have hcnt : 1 ≤ C i := by
    rw [A.cnt_ i x hi]
    exact List.length_pos_of_mem (List.mem_filter.2 ⟨List.mem_of_getElem? hi, g3.own⟩)
  have h3 : Ev (fun k => laws_FnLoops.a3 k L L (tI o) (i : Int)) (.inr (L, L, tI o, (i : Int))) := by
    unfold laws_FnLoops.a3
    refine Ev.idx (A.ok.at_ i x hi) (Ev.idx (A.ok.at_ i x hi) (Ev.cf (by simp) ?_))
    simp only []
    rw [u64_nat (by omega)]
    refine Ev.gd (by omega) ?_
    rw [test_t _ _ (by omega), g3.own]
    exact Ev.cf (by simp) (Ev.cf (df (by omega)) Ev.pure)
  unfold laws_FnLoops.a2
  refine Ev.bind h3 ?_
  simp only [Sum.elim_inr]
  refine Ev.bind (loops_ahead A hi _ 0 rfl (by omega)) ?_
  simp only [Sum.elim_inr]
  refine Ev.bind (loops_pairs A hi (tI o) _ 0 rfl (by omega)) ?_
  simp only [Sum.elim_inr]
  exact Ev.pure
theorem loops_all (A : LoopsAre m h o Ls C L) : ∀ (d i : Nat), Ls.length - i = d → i ≤ Ls.length → Ev (fun k => laws_FnLoops.l1 k L L (tI o) (i : Int)) (.inr ())
  | 0, i, hd, hi => by
    have hl := A.ok.len
    refine Ev.succ ?_
    simp only [laws_FnLoops.l1]
    exact Ev.cf (df (by omega)) Ev.pure
  | d + 1, i, hd, hi => by
    have hl := A.ok.len
    have h60 := A.len
    obtain ⟨x, hx⟩ := list_get (show i < Ls.length by omega)
    refine Ev.succ ?_
    simp only [laws_FnLoops.l1]
    refine Ev.ct (dt (by omega)) (Ev.bind (loops_one A hx) ?_)
    simp only [Sum.elim_inr]
    rw [wrap_nat (by omega)]
    exact loops_all A d (i + 1) (by omega) (by omega)
end
theorem law_fnloops (code : List Int) (hcl : code.length ≤ 9223372036854775807) : Ev (fun k => laws_FnLoops k code) true := by
  unfold laws_FnLoops
  by_cases cl : (code.length : Int) > 1048576
  · exact Ev.ct (dt cl) Ev.pure
  refine Ev.cf (df cl) ?_
  obtain ⟨⟨p, f⟩, hd, hp⟩ := drawOne_ok code (by omega)
  have hdd : Ev (fun k => spec_DrawLoops k code) (p, f) := by
    unfold spec_DrawLoops
    exact Ev.bind hd Ev.pure
  refine Ev.bind hdd ?_
  have hp : PW p := hp
  have hlen := hp.len
  dsimp only
  rcases loops_what hp.args64 (by omega) f with ⟨m, h, o, Ls, C, L, A, e1, e2, e3⟩ | ⟨e1, e2, e3⟩
  · refine Ev.bind e1 (Ev.bind e2 (Ev.bind e3 (Ev.cf (by simp) (Ev.bind (loops_all A _ 0 rfl (by omega)) Ev.pure))))
  · refine Ev.bind e1 (Ev.bind e2 (Ev.bind e3 (Ev.cf (by simp) (Ev.bind (a := (Sum.inr () : Bool ⊕ Unit)) (Ev.succ ?_) Ev.pure))))
    simp only [laws_FnLoops.l1]
    exact Ev.cf (by simp) Ev.pure
end Go.Proofs.Ytdlaplgofgklnaa
namespace Go.Proofs.Ytdlaplgofgklnaa
open Go.Proofs Go.Proofs.Ytdlaplgofgklnaa.L
set_option maxHeartbeats 1000000
set_option linter.unusedSimpArgs false
set_option linter.unusedVariables false
open Go.ChangeShapes Go.WideShapes Go.RowKit
set_option maxRecDepth 100000
theorem shp_kind {P : Program} {m : Nat} {t : TypeId} {k : IntKind} {ds : List D} (hu : P.underlying t = some (.int k)) (h : Shp P m t ds) : ∃ z : Int, ds = [.p (.int k z)] ∧ True := by
  cases m with
  | zero => cases h
  | succ m =>
    simp only [Shp, hu] at h
    obtain ⟨z, e, -⟩ := h
    exact ⟨z, e, trivial⟩
theorem el_t5 (m : Nat) (ds : List D) (h : Shp Try.prog m 5 ds) : ∃ z : Int, ds = (cI .u8) z ∧ True := by
  obtain ⟨z0, rfl, w0⟩ := shp_kind Try.underlying5 h
  exact ⟨z0, rfl, w0⟩
theorem Try.own : ownKnob Try.prog.godebug = none := by kernel_rfl
theorem Try.laidOut : laidOutB Try.prog = true := by kernel_rfl
theorem fnLoops_con (xs : List V) (hs : L.All2 (ShpV Try.prog 12) Try.f7.params.toList xs) : Con Try.prog 7 xs [] (V.bool true) [] := by
  rw [Try.params7] at hs
  cases hs with
  | cons s0 t0 =>
    cases t0
    obtain ⟨p0, rfl, kl0, ko0⟩ := L.shpV_slice (s := 1) (f := (cI .u8)) (ok := fun z => True) Try.underlying37 (by kernel_rfl) (fun k ds h => el_t5 k ds h) s0
    obtain ⟨k, hk⟩ := (law_fnloops p0 kl0).ex
    exact c_laws_FnLoops hk
theorem fnLoops_read : ∀ t ∈ Try.f7.params.toList, Try.prog.readableRec t = true ∧ t < Try.prog.types.size := by
  rw [Try.params7]
  intro t ht
  simp only [List.mem_cons, List.not_mem_nil, or_false] at ht
  rcases ht with rfl
  all_goals exact ⟨by kernel_rfl, of_decide_eq_true (by kernel_rfl)⟩
theorem fnLoops_plain : ∀ t ∈ Try.f7.params.toList, plainT Try.prog 12 t = true := by
  rw [Try.params7]
  intro t ht
  simp only [List.mem_cons, List.not_mem_nil, or_false] at ht
  rcases ht with rfl
  all_goals kernel_rfl
theorem fnLoops_lifted (os : Os) (started : os.Started) (H : Type) (enc : TypeId × Value → H) :
    ReturnsInHanded {} Try.checked os 7 .any (Rows.fnLoopsSpec.pre6 enc Try.prog Try.f7 Rows.fnLoopsRow.domain false) (Rows.fnLoopsSpec.post enc Try.prog Try.f7 false true false false) := by
  refine returnsInHanded_of_change (C := Try.checked) Try.own started (by kernel_rfl) Try.func7
    (ChangeSpec.witness6 (enc := enc) (C := Try.checked) false ⟨#[], #[.slice none 0 0], []⟩ 8 (by kernel_rfl) (by kernel_rfl) (by kernel_rfl) (by kernel_rfl)) ?_
  intro W base args ds gs before hval hW hcnd _
  obtain ⟨p, q, hA0, -⟩ := id hW
  have hB0 : DataW.TrodAll enc Try.prog W 0 (fun _ => true) true Try.f7.params.toList args.toList ds p := hA0
  rw [Try.params7] at hB0
  obtain ⟨v0, vs0, d0, ds0, pa0, pb0, -, rfl, -, -, hB1⟩ := trodAll_cons hB0
  obtain ⟨-, rfl, -⟩ := trodAll_nil hB1
  exact row_contract Try.laidOut fnLoops_con fnLoops_plain fnLoops_read rfl rfl Try.underlying4 rfl hval hW
theorem fnLoops_holds : Rows.FnLoopsSaid :=
  OpenClaim.holds_of_wide 7 Try.f7 rfl rfl rfl rfl rfl rfl rfl ⟨rfl, rfl, rfl, rfl, rfl⟩ rfl rfl rfl rfl rfl (by kernel_rfl) Try.func7 (by kernel_rfl)
    (of_decide_eq_true (by kernel_rfl)) (by unfold Func.isWrapper; first | (rw [if_pos (by decide +kernel)]; kernel_rfl) | (rw [if_neg (by decide +kernel)]; exact ⟨rfl, rfl⟩))
    (fun os started H enc _ => fnLoops_lifted os started H enc)
end Go.Proofs.Ytdlaplgofgklnaa