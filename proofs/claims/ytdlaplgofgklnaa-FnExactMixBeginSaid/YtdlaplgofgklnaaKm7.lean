/- WHAT IS PROVED: the law FnExactMixBegin of the program, for every input. Conditions: none. -/
import Derived.Test.YtdlaplgofgklnaaKm6
namespace Go.Proofs.Ytdlaplgofgklnaa
open Go.Proofs Go.Proofs.Ytdlaplgofgklnaa.L
set_option linter.unusedVariables false
set_option linter.unusedSimpArgs false

theorem toInt64S_l (l : List Int) (hn : l.length < 4611686018427387904) : ∀ (d i : Nat) (acc : List Int), l.length - i = d → i ≤ l.length → acc.length = l.length → acc.take i = l.take i →
    Ev (fun k => laws_toInt64S.l1 k acc l (i : Int)) l := by
  intro d
  induction d with
  | zero =>
    intro i acc hd hi ha ht
    have : i = l.length := by omega
    subst this
    refine Ev.succ ?_
    simp only [laws_toInt64S.l1]
    refine Ev.cf (df (by omega)) ?_
    rw [List.take_of_length_le (by omega), List.take_of_length_le (by omega)] at ht
    rw [ht]; exact Ev.pure
  | succ d ih =>
    intro i acc hd hi ha ht
    obtain ⟨m, hm⟩ := list_get (show i < l.length by omega)
    obtain ⟨z, hz⟩ := list_get (show i < acc.length by omega)
    refine Ev.succ ?_
    simp only [laws_toInt64S.l1]
    refine Ev.ct (dt (by omega)) (Ev.idx hm (Ev.idx hz ?_))
    rw [wrap_nat (by omega), Int.toNat_natCast]
    exact ih (i + 1) _ (by omega) (by omega) (by simp [ha]) (take_set_next ha ht hm)
theorem toInt64S_ev {l : List Int} (h : l.length * 8 ≤ 35184372088832) : Ev (fun k => laws_toInt64S k l) l := by
  unfold laws_toInt64S
  exact Ev.gd ⟨by omega, by omega, by omega⟩ (Ev.bind (toInt64S_l l (by omega) _ 0 _ rfl (by omega) (by simp) rfl) Ev.pure)

theorem mark_ev (l : List Int) (n : Nat) (hn : n + l.length < 4611686018427387904) : ∃ l', Ev (fun k => laws_markInt64S k l (n : Int)) (((n + l.length : Nat) : Int), l') ∧ l'.length = l.length ∧ Ev (fun k => laws_heldInt64S k l' (n : Int)) ((n + l.length : Nat) : Int) := by
  obtain ⟨l', h1, h2, h3⟩ := markInt64S_l l.length 0 l n (by omega) (by omega) (by omega) (fun j hj => by omega)
  have h4 := heldInt64S_l l' n (by omega) (fun j hj => h3 j (by omega)) _ 0 rfl (by omega)
  rw [h2] at h4
  exact ⟨l', Ev.bind h1 Ev.pure, h2, Ev.bind h4 Ev.pure⟩

/-- The beginning, as both tell it. -/
def mix0 : GMixed := ⟨[], [], [], [], 0, false, 0, 0⟩
def mix1 (f : Int) (L : List Int) (fuel : Int) : GMixed := ⟨[], [⟨false, f, 0, L, [], []⟩], [], [], fuel, false, 0, 0⟩

theorem mix_both {p : GProgram} (ha : Args64 p) (hn : p.funcs.length ≤ 1048576) (f : Int) (a : List Int) (fuel : Int) :
    ∃ r, Ev (fun k => impl_MixBegin k p f a fuel) r ∧ Ev (fun k => spec_MixBegin k p f a fuel) r ∧ (r = mix0 ∨ ∃ L : List Int, L.length ≤ 1000 ∧ r = mix1 f L fuel) := by
  obtain ⟨hs, ok, k1, k2, k3⟩ := knownFunc_ev ha hn f
  obtain ⟨ok2, s1, s2⟩ := specIs_ev ha hn f
  have zero : ∀ (hi : Ev (fun k => impl_Begin k p f a fuel) ⟨[], [], [], 0, false, 0, 0⟩) (hs : Ev (fun k => spec_MixBegin.a1 k p.funcs mix0 f a fuel) (.inl mix0)),
      ∃ r, Ev (fun k => impl_MixBegin k p f a fuel) r ∧ Ev (fun k => spec_MixBegin k p f a fuel) r ∧ (r = mix0 ∨ ∃ L : List Int, L.length ≤ 1000 ∧ r = mix1 f L fuel) := by
    intro hi hs
    refine ⟨mix0, ?_, ?_, .inl rfl⟩
    · unfold impl_MixBegin
      exact Ev.bind hi (Ev.ct (by simp) Ev.pure)
    · unfold spec_MixBegin
      exact Ev.bind hs Ev.pure
  by_cases c400 : (a.length : Int) > 400
  · refine zero ?_ ?_
    · unfold impl_Begin
      exact Ev.bind k1 (Ev.ct (dt c400) Ev.pure)
    · unfold spec_MixBegin.a1
      exact Ev.ct (dt c400) Ev.pure
  by_cases c : RightP p ∧ 0 ≤ f ∧ f < (p.funcs.length : Int)
  · have e1 : ok = true := k2.2 c
    have e2 : ok2 = true := s2.2 c
    subst e1 e2
    obtain ⟨hp, hf0, hf1⟩ := c
    obtain ⟨n, rfl⟩ := Int.eq_ofNat_of_zero_le hf0
    obtain ⟨m, hm⟩ := list_get (show n < p.funcs.length by omega)
    have hF := (hp.all m (List.mem_of_getElem? hm)).1
    have hloc := hF.locals
    have harg := hF.args
    have specOk : Ev (fun k => spec_l06Ok k p ((n : Nat) : Int) a fuel) (decide ((a.length : Int) = m.args ∧ 0 ≤ fuel ∧ fuel ≤ 3000)) := by
      unfold spec_l06Ok
      refine Ev.bind s1 (Ev.ct rfl (Ev.idx hm ?_))
      by_cases c1 : (a.length : Int) = m.args
      · refine Ev.ct (by simpa using c1) ?_
        by_cases c2 : fuel ≥ 0
        · refine Ev.ct (dt c2) ?_
          have : decide (fuel ≤ 3000) = decide ((a.length : Int) = m.args ∧ 0 ≤ fuel ∧ fuel ≤ 3000) := by
            by_cases c3 : fuel ≤ 3000 <;> simp [c1, c2, c3] <;> omega
          rw [this]
          exact Ev.pure
        · refine Ev.cf (df c2) ?_
          have : decide ((a.length : Int) = m.args ∧ 0 ≤ fuel ∧ fuel ≤ 3000) = false := df (by omega)
          rw [this]
          exact Ev.pure
      · refine Ev.cf (by simpa using c1) ?_
        have : decide ((a.length : Int) = m.args ∧ 0 ≤ fuel ∧ fuel ≤ 3000) = false := df (by omega)
        rw [this]
        exact Ev.pure
    by_cases cc : (a.length : Int) = m.args ∧ 0 ≤ fuel ∧ fuel ≤ 3000
    · have hfr : impl_prog_first ⟨p, hs⟩ ((n : Nat) : Int) a = some ⟨((n : Nat) : Int), 0, cpyL (List.replicate m.locals.toNat 0) 0 m.locals.toNat a, []⟩ := by
        unfold impl_prog_first
        simp only [idx_nat, hm, Option.bind_some]
        unfold L.gd
        rw [if_pos ⟨by omega, by omega, by omega⟩]
      have sfr : spec_l06Frame p ((n : Nat) : Int) a = some ⟨((n : Nat) : Int), 0, cpyL (List.replicate m.locals.toNat 0) 0 m.locals.toNat a, []⟩ := by
        unfold spec_l06Frame
        simp only [idx_nat, hm, Option.bind_some]
        unfold L.gd
        rw [if_pos ⟨by omega, by omega, by omega⟩]
      refine ⟨mix1 ((n : Nat) : Int) (cpyL (List.replicate m.locals.toNat 0) 0 m.locals.toNat a) fuel, ?_, ?_, .inr ⟨_, ?_, rfl⟩⟩
      · unfold impl_MixBegin impl_Begin
        refine Ev.bind (Ev.bind k1 (Ev.cf (df c400) (Ev.cf rfl (Ev.idx hm (Ev.cf (by simpa using cc.1) (Ev.bind (Ev.const (impl_in_eq _ _ _)) (Ev.cf (by simp; omega) (Ev.bind (Ev.const hfr) Ev.pure)))))))) ?_
        exact Ev.cf (by simp) (Ev.bind (a := ⟨((n : Nat) : Int), 0, cpyL (List.replicate m.locals.toNat 0) 0 m.locals.toNat a, []⟩) (Ev.const (by simp [L.idx])) Ev.pure)
      · unfold spec_MixBegin
        refine Ev.bind (a := .inr (p.funcs, mix0, ((n : Nat) : Int), a, fuel)) ?_ (by simp only [Sum.elim_inr]; exact Ev.bind (Ev.const sfr) Ev.pure)
        unfold spec_MixBegin.a1
        refine Ev.cf (df c400) (Ev.bind specOk (Ev.cf (by simpa using cc) Ev.pure))
      · rw [cpyL_length _ _ _ _ (by simp), List.length_replicate]
        omega
    · refine zero ?_ ?_
      · unfold impl_Begin
        refine Ev.bind k1 (Ev.cf (df c400) (Ev.cf rfl (Ev.idx hm ?_)))
        by_cases c1 : (a.length : Int) = m.args
        · exact Ev.cf (by simpa using c1) (Ev.bind (Ev.const (impl_in_eq _ _ _)) (Ev.ct (by simp; omega) Ev.pure))
        · exact Ev.ct (by simpa using c1) Ev.pure
      · unfold spec_MixBegin.a1
        exact Ev.cf (df c400) (Ev.bind specOk (Ev.ct (by simp only [decide_eq_false cc, Bool.not_false]) Ev.pure))
  · have e1 : ok = false := by cases ok with | false => rfl | true => exact absurd (k2.1 rfl) c
    have e2 : ok2 = false := by cases ok2 with | false => rfl | true => exact absurd (s2.1 rfl) c
    subst e1 e2
    refine zero ?_ ?_
    · unfold impl_Begin
      exact Ev.bind k1 (Ev.cf (df c400) (Ev.ct rfl Ev.pure))
    · unfold spec_MixBegin.a1 spec_l06Ok
      exact Ev.cf (df c400) (Ev.bind (Ev.bind s1 (Ev.cf rfl Ev.pure)) (Ev.ct rfl Ev.pure))

/-! ### The law's own functions at such an answer -/
theorem eqM0 : Ev (fun k => laws_eqMixed k mix0 mix0) true := by
  have h1 : Ev (fun k => laws_eqAsmS k [] []) true := by
    unfold laws_eqAsmS; exact Ev.cf (by simp) (Ev.bind (a := (Sum.inr () : Bool ⊕ Unit)) (Ev.succ (by simp only [laws_eqAsmS.l1]; exact Ev.cf (by simp) Ev.pure)) Ev.pure)
  have h2 : Ev (fun k => laws_eqMixFrameS k [] []) true := by
    unfold laws_eqMixFrameS; exact Ev.cf (by simp) (Ev.bind (a := (Sum.inr () : Bool ⊕ Unit)) (Ev.succ (by simp only [laws_eqMixFrameS.l1]; exact Ev.cf (by simp) Ev.pure)) Ev.pure)
  have h3 : Ev (fun k => laws_eqInt64SS k [] []) true := by
    unfold laws_eqInt64SS; exact Ev.cf (by simp) (Ev.bind (a := (Sum.inr () : Bool ⊕ Unit)) (Ev.succ (by simp only [laws_eqInt64SS.l1]; exact Ev.cf (by simp) Ev.pure)) Ev.pure)
  unfold laws_eqMixed
  refine Ev.bind h1 (Ev.cf rfl (Ev.bind h2 (Ev.cf rfl (Ev.bind h3 (Ev.cf rfl (Ev.bind (eqInt64S_ev [] (by simp)) (Ev.cf rfl (Ev.cf (by simp) (Ev.cf (by simp) (Ev.cf (by simp) (Ev.cf (by simp) Ev.pure)))))))))))
theorem eqM1 (f : Int) (X : List Int) (fuel : Int) (hL : X.length ≤ 1000) : Ev (fun k => laws_eqMixed k (mix1 f X fuel) (mix1 f X fuel)) true := by
  have h1 : Ev (fun k => laws_eqAsmS k [] []) true := by
    unfold laws_eqAsmS; exact Ev.cf (by simp) (Ev.bind (a := (Sum.inr () : Bool ⊕ Unit)) (Ev.succ (by simp only [laws_eqAsmS.l1]; exact Ev.cf (by simp) Ev.pure)) Ev.pure)
  have h0 : Ev (fun k => laws_eqMixFrame k ⟨false, f, 0, X, [], []⟩ ⟨false, f, 0, X, [], []⟩) true := by
    unfold laws_eqMixFrame
    exact Ev.cf (by simp) (Ev.cf (by simp) (Ev.cf (by simp) (Ev.bind (eqInt64S_ev X (by omega)) (Ev.cf rfl (Ev.bind (eqInt64S_ev [] (by simp)) (Ev.cf rfl (Ev.bind (eqInt64S_ev [] (by simp)) (Ev.cf rfl Ev.pure))))))))
  have h2 : Ev (fun k => laws_eqMixFrameS k [⟨false, f, 0, X, [], []⟩] [⟨false, f, 0, X, [], []⟩]) true := by
    unfold laws_eqMixFrameS
    refine Ev.cf (by simp) (Ev.bind (a := (Sum.inr () : Bool ⊕ Unit)) (Ev.succ ?_) Ev.pure)
    simp only [laws_eqMixFrameS.l1]
    refine Ev.ct (by simp) (Ev.bind (a := ⟨false, f, 0, X, [], []⟩) (Ev.const (by simp [L.idx])) (Ev.bind (a := ⟨false, f, 0, X, [], []⟩) (Ev.const (by simp [L.idx])) (Ev.bind h0 (Ev.cf rfl (Ev.succ ?_)))))
    simp only [laws_eqMixFrameS.l1]
    exact Ev.cf (by simp [wrap64_eq]) Ev.pure
  have h3 : Ev (fun k => laws_eqInt64SS k [] []) true := by
    unfold laws_eqInt64SS; exact Ev.cf (by simp) (Ev.bind (a := (Sum.inr () : Bool ⊕ Unit)) (Ev.succ (by simp only [laws_eqInt64SS.l1]; exact Ev.cf (by simp) Ev.pure)) Ev.pure)
  unfold laws_eqMixed
  refine Ev.bind h1 (Ev.cf rfl (Ev.bind h2 (Ev.cf rfl (Ev.bind h3 (Ev.cf rfl (Ev.bind (eqInt64S_ev [] (by simp)) (Ev.cf rfl (Ev.cf (by simp) (Ev.cf (by simp) (Ev.cf (by simp) (Ev.cf (by simp) Ev.pure)))))))))))

/-- What is marked in an answer, and held in it. -/
structure MH (r : GMixed) : Prop where
  eq : Ev (fun k => laws_eqMixed k r r) true
  marks : ∃ (c : Nat) (fr : List GMixFrame), Ev (fun k => laws_markMixed k r 1) ((c : Int), [], fr, [], []) ∧ fr.length = r.frames.length ∧ r.code = [] ∧ r.heap = [] ∧ r.out = [] ∧
    Ev (fun k => laws_heldMixed k ⟨[], fr, [], [], r.fuel0, r.done, r.value, r.trap⟩ 1) (c : Int)

theorem mA (n : Nat) : Ev (fun k => laws_markAsmS k [] (n : Int)) ((n : Int), []) := by
  unfold laws_markAsmS; exact Ev.bind (a := (([], (n : Int)) : List GAsm × Int)) (Ev.succ (by simp only [laws_markAsmS.l1]; exact Ev.cf (by simp) Ev.pure)) Ev.pure
theorem hA (n : Nat) : Ev (fun k => laws_heldAsmS k [] (n : Int)) (n : Int) := by
  unfold laws_heldAsmS; exact Ev.bind (a := (Sum.inr (n : Int) : Int ⊕ Int)) (Ev.succ (by simp only [laws_heldAsmS.l1]; exact Ev.cf (by simp) Ev.pure)) Ev.pure
theorem mS (n : Nat) : Ev (fun k => laws_markInt64SS k [] (n : Int)) ((n : Int), []) := by
  unfold laws_markInt64SS; exact Ev.bind (a := (([], (n : Int)) : List (List Int) × Int)) (Ev.succ (by simp only [laws_markInt64SS.l1]; exact Ev.cf (by simp) Ev.pure)) Ev.pure
theorem hS (n : Nat) : Ev (fun k => laws_heldInt64SS k [] (n : Int)) (n : Int) := by
  unfold laws_heldInt64SS; exact Ev.bind (a := (Sum.inr (n : Int) : Int ⊕ Int)) (Ev.succ (by simp only [laws_heldInt64SS.l1]; exact Ev.cf (by simp) Ev.pure)) Ev.pure
theorem mN (n : Nat) : Ev (fun k => laws_markInt64S k [] (n : Int)) ((n : Int), []) := by
  unfold laws_markInt64S; exact Ev.bind (a := (([], (n : Int)) : List Int × Int)) (Ev.succ (by simp only [laws_markInt64S.l1]; exact Ev.cf (by simp) Ev.pure)) Ev.pure
theorem hN (n : Nat) : Ev (fun k => laws_heldInt64S k [] (n : Int)) (n : Int) := by
  unfold laws_heldInt64S; exact Ev.bind (a := (Sum.inr (n : Int) : Int ⊕ Int)) (Ev.succ (by simp only [laws_heldInt64S.l1]; exact Ev.cf (by simp) Ev.pure)) Ev.pure

theorem mix_all (r : GMixed) (c : Nat) (fr : List GMixFrame) (hl : fr.length = r.frames.length) (h1 : r.code = []) (h2 : r.heap = []) (h3 : r.out = [])
    (hm : Ev (fun k => laws_markMixFrameS k r.frames 1) ((c : Int), fr)) (hh : Ev (fun k => laws_heldMixFrameS k fr 1) (c : Int)) :
    Ev (fun k => laws_markMixed k r 1) ((c : Int), [], fr, [], []) ∧ Ev (fun k => laws_heldMixed k ⟨[], fr, [], [], r.fuel0, r.done, r.value, r.trap⟩ 1) (c : Int) := by
  constructor
  · unfold laws_markMixed
    rw [h1, h2, h3]
    refine Ev.bind (mA 1) (Ev.gd rfl (Ev.bind hm (Ev.gd hl (Ev.bind (mS c) (Ev.gd rfl (Ev.bind (mN c) (Ev.gd rfl Ev.pure)))))))
  · unfold laws_heldMixed
    refine Ev.bind (hA 1) (Ev.cf (by simp) (Ev.bind hh (Ev.cf (df (by omega)) (Ev.bind (hS c) (Ev.cf (df (by omega)) (Ev.bind (hN c) (Ev.cf (df (by omega)) Ev.pure)))))))

theorem mh0 : MH mix0 := by
  refine ⟨eqM0, 1, [], ?_⟩
  have hm : Ev (fun k => laws_markMixFrameS k mix0.frames 1) (((1 : Nat) : Int), []) := by
    unfold laws_markMixFrameS; exact Ev.bind (a := (([], ((1 : Nat) : Int)) : List GMixFrame × Int)) (Ev.succ (by simp only [laws_markMixFrameS.l1]; exact Ev.cf (by simp [mix0]) Ev.pure)) Ev.pure
  have hh : Ev (fun k => laws_heldMixFrameS k [] 1) ((1 : Nat) : Int) := by
    unfold laws_heldMixFrameS; exact Ev.bind (a := (Sum.inr ((1 : Nat) : Int) : Int ⊕ Int)) (Ev.succ (by simp only [laws_heldMixFrameS.l1]; exact Ev.cf (by simp) Ev.pure)) Ev.pure
  obtain ⟨a1, a2⟩ := mix_all mix0 1 [] rfl rfl rfl rfl hm hh
  exact ⟨a1, rfl, rfl, rfl, rfl, a2⟩

theorem mh1 (f : Int) (X : List Int) (fuel : Int) (hL : X.length ≤ 1000) : MH (mix1 f X fuel) := by
  obtain ⟨l', q1, q2, q3⟩ := mark_ev X 4 (by omega)
  have e1 : IntKind.i64.wrap (1 + 1) = 2 := by simp [wrap64_eq]
  have e2 : IntKind.i64.wrap (2 + 1) = 3 := by simp [wrap64_eq]
  have e3 : IntKind.i64.wrap (3 + 1) = ((4 : Nat) : Int) := by simp [wrap64_eq]
  have e0 : IntKind.i64.wrap (0 + 1) = 1 := by simp [wrap64_eq]
  refine ⟨eqM1 f X fuel hL, 4 + X.length, [⟨false, 2, 3, l', [], []⟩], ?_⟩
  have hm : Ev (fun k => laws_markMixFrameS k (mix1 f X fuel).frames 1) (((4 + X.length : Nat) : Int), [⟨false, 2, 3, l', [], []⟩]) := by
    unfold laws_markMixFrameS
    refine Ev.bind (a := ([⟨false, 2, 3, l', [], []⟩], ((4 + X.length : Nat) : Int))) (Ev.succ ?_) Ev.pure
    simp only [laws_markMixFrameS.l1, mix1, e1, e2, e3]
    refine Ev.ct (by simp) (Ev.bind (a := ⟨false, f, 0, X, [], []⟩) (Ev.const (by simp [L.idx])) (Ev.bind q1 (Ev.gd q2 (Ev.bind (mN _) (Ev.gd rfl (Ev.bind (mN _) (Ev.gd rfl (Ev.succ ?_))))))))
    simp only [laws_markMixFrameS.l1, e0]
    exact Ev.cf (by simp) (Ev.of fun k => by simp)
  have hh : Ev (fun k => laws_heldMixFrameS k [⟨false, 2, 3, l', [], []⟩] 1) ((4 + X.length : Nat) : Int) := by
    unfold laws_heldMixFrameS
    refine Ev.bind (a := (Sum.inr ((4 + X.length : Nat) : Int) : Int ⊕ Int)) (Ev.succ ?_) Ev.pure
    simp only [laws_heldMixFrameS.l1, e1, e2, e3]
    refine Ev.ct (by simp) (Ev.bind (a := ⟨false, 2, 3, l', [], []⟩) (Ev.const (by simp [L.idx])) (Ev.cf (by dsimp only; decide) (Ev.cf (by simp) (Ev.cf (by simp) (Ev.bind q3 (Ev.cf (df (by omega)) (Ev.bind (hN _) (Ev.cf (df (by omega)) (Ev.bind (hN _) (Ev.cf (df (by omega)) (Ev.succ ?_)))))))))))
    simp only [laws_heldMixFrameS.l1, e0]
    exact Ev.cf (by simp) Ev.pure
  obtain ⟨a1, a2⟩ := mix_all (mix1 f X fuel) (4 + X.length) [⟨false, 2, 3, l', [], []⟩] rfl rfl rfl rfl hm hh
  exact ⟨a1, rfl, rfl, rfl, rfl, a2⟩

/-- The law. -/
theorem law_mixbegin (p : GProgram) (f : Int) (a : List Int) (fuel : Int) (ha : Args64 p) (h1 : p.funcs.length ≤ 9223372036854775807) (h2 : ∀ m ∈ p.funcs, m.code.length ≤ 9223372036854775807) : Ev (fun k => laws_FnExactMixBegin k p f a fuel) true := by
  unfold laws_FnExactMixBegin
  by_cases cl : (a.length : Int) > 1048576
  · exact Ev.ct (dt cl) Ev.pure
  refine Ev.cf (df cl) ?_
  obtain ⟨t, ht, hcase⟩ := szProgram_ev p h1 h2
  rcases hcase with h | ⟨h, hS⟩
  · exact Ev.bind ht (Ev.ct (dt h) Ev.pure)
  · obtain ⟨r, p1, p2, p3⟩ := mix_both ha hS.funcs f a fuel
    have hr : MH r := by
      rcases p3 with rfl | ⟨L, hL, rfl⟩
      · exact mh0
      · exact mh1 f L fuel hL
    obtain ⟨q1, c, fr, q2, q3, q4, q5, q6, q7⟩ := hr
    obtain ⟨mk, n2, m1, m2, m5⟩ := markProgram_b hS
    have hS1 := hS.funcs
    obtain ⟨a', m3, m4, -⟩ := mark_ev a n2 (by omega)
    have ta := toInt64S_ev (l := a) (by omega)
    refine Ev.bind ht (Ev.cf (df (by omega)) (Ev.bind (toProgram_ev hS) (Ev.bind ta (Ev.bind p2 (Ev.bind (toProgram_ev hS) (Ev.bind ta (Ev.bind p1 (Ev.bind q1 (Ev.cf rfl (Ev.bind (toProgram_ev hS) (Ev.bind (eqProgram_ev hS) (Ev.cf rfl (Ev.bind ta (Ev.bind (eqInt64S_ev a (by omega)) (Ev.cf rfl (Ev.bind m1 (Ev.gd m2 (Ev.bind m3 (Ev.gd m4 (Ev.bind (a := .inr (p.funcs, r, r, f, a, fuel)) ?_ ?_))))))))))))))))))))
    · unfold laws_FnExactMixBegin.a1
      exact Ev.cf (df (by omega)) (Ev.bind q1 (Ev.cf rfl Ev.pure))
    · simp only [Sum.elim_inr]
      refine Ev.bind q2 (Ev.gd (by simp [q4]) (Ev.gd (by simp [q3]) (Ev.gd (by simp [q5]) (Ev.gd (by simp [q6]) (Ev.bind q7 (Ev.cf (df (by omega)) (Ev.cf (by simp) (Ev.bind (toProgram_ev (p := p) hS) (Ev.bind ta (Ev.bind p1 (Ev.bind q1 (Ev.cf rfl (Ev.bind q7 (Ev.cf (df (by omega)) (Ev.cf (by simp) Ev.pure)))))))))))))))

end Go.Proofs.Ytdlaplgofgklnaa
namespace Go.Proofs.Ytdlaplgofgklnaa
open Go.Proofs Go.Proofs.Ytdlaplgofgklnaa.L
set_option maxHeartbeats 1000000
set_option linter.unusedSimpArgs false
set_option linter.unusedVariables false
open Go.ChangeShapes Go.WideShapes Go.RowKit
set_option maxRecDepth 100000

def GI2.ok (x : GI2) : Prop := L.i64 x.a ∧ L.i64 x.b
def GFunc.ok (x : GFunc) : Prop := L.i64 x.args ∧ L.i64 x.locals ∧ (x.code.length ≤ 9223372036854775807 ∧ ∀ z ∈ x.code, z.ok)
def GProgram.ok (x : GProgram) : Prop := (x.funcs.length ≤ 9223372036854775807 ∧ ∀ z ∈ x.funcs, z.ok)
theorem shp_t159 (m : Nat) (ds : List D) (h : Shp Try.prog m 159 ds) : ∃ x : GI2, ds = GI2.cells x ∧ x.ok := by
  obtain ⟨k, dss, rfl, h0⟩ := L.shp_struct Try.underlying159 h
  cases h0 with
  | cons g0 h1 =>
    cases h1 with
    | cons g1 h2 =>
      cases h2
      obtain ⟨z0, rfl, w0⟩ := L.shp_i64 Try.underlying2 g0
      obtain ⟨z1, rfl, w1⟩ := L.shp_i64 Try.underlying2 g1
      exact ⟨⟨z0, z1⟩, rfl, w0, w1⟩
theorem el_t159 (m : Nat) (ds : List D) (h : Shp Try.prog m 159 ds) : ∃ z : GI2, ds = GI2.cells z ∧ z.ok := by
  obtain ⟨z0, e, w0⟩ := shp_t159 _ _ h
  exact ⟨z0, e, w0⟩
theorem shp_t103 (m : Nat) (ds : List D) (h : Shp Try.prog m 103 ds) : ∃ x : GFunc, ds = (GFunc.cells .bor) x ∧ x.ok := by
  obtain ⟨k, dss, rfl, h0⟩ := L.shp_struct Try.underlying103 h
  cases h0 with
  | cons g0 h1 =>
    cases h1 with
    | cons g1 h2 =>
      cases h2 with
      | cons g2 h3 =>
        cases h3
        obtain ⟨z0, rfl, w0⟩ := L.shp_i64 Try.underlying2 g0
        obtain ⟨z1, rfl, w1⟩ := L.shp_i64 Try.underlying2 g1
        obtain ⟨z2, rfl, wl2, wo2⟩ := L.shp_slice (s := 2) (f := GI2.cells) (ok := fun z => z.ok) Try.underlying101 (by kernel_rfl) (fun k ds h => el_t159 k ds h) g2
        exact ⟨⟨z0, z1, z2⟩, rfl, w0, w1, ⟨wl2, wo2⟩⟩
theorem el_t103 (m : Nat) (ds : List D) (h : Shp Try.prog m 103 ds) : ∃ z : GFunc, ds = (GFunc.cells .bor) z ∧ z.ok := by
  obtain ⟨z0, e, w0⟩ := shp_t103 _ _ h
  exact ⟨z0, e, w0⟩
theorem shp_t24 (m : Nat) (ds : List D) (h : Shp Try.prog m 24 ds) : ∃ x : GProgram, ds = (GProgram.cells .bor) x ∧ x.ok := by
  obtain ⟨k, dss, rfl, h0⟩ := L.shp_struct Try.underlying24 h
  cases h0 with
  | cons g0 h1 =>
    cases h1
    obtain ⟨z0, rfl, wl0, wo0⟩ := L.shp_slice (s := 3) (f := (GFunc.cells .bor)) (ok := fun z => z.ok) Try.underlying22 (by kernel_rfl) (fun k ds h => el_t103 k ds h) g0
    exact ⟨⟨z0⟩, rfl, ⟨wl0, wo0⟩⟩
theorem el_t2 (m : Nat) (ds : List D) (h : Shp Try.prog m 2 ds) : ∃ z : Int, ds = (cI .i64) z ∧ L.i64 z := by
  obtain ⟨z0, rfl, w0⟩ := L.shp_i64 Try.underlying2 h
  exact ⟨z0, rfl, w0⟩
theorem args64_of {p : GProgram} (h : p.ok) : Args64 p := fun f hf => (h.2 f hf).1
theorem codes_of {p : GProgram} (h : p.ok) : ∀ m ∈ p.funcs, m.code.length ≤ 9223372036854775807 := fun f hf => (h.2 f hf).2.2.1

theorem Try.own : ownKnob Try.prog.godebug = none := by kernel_rfl
theorem Try.laidOut : laidOutB Try.prog = true := by kernel_rfl

theorem fnExactMixBegin_con (xs : List V) (hs : L.All2 (ShpV Try.prog 12) Try.f8.params.toList xs) : Con Try.prog 8 xs [] (V.bool true) [] := by
  rw [Try.params8] at hs
  cases hs with
  | cons s0 t0 =>
    cases t0 with
    | cons s1 t1 =>
      cases t1 with
      | cons s2 t2 =>
        cases t2 with
        | cons s3 t3 =>
          cases t3
          obtain ⟨ds0, rfl, q0⟩ := L.shpV_agg Try.underlying24 s0
          obtain ⟨p0, rfl, k0⟩ := shp_t24 _ _ q0
          obtain ⟨p1, rfl, k1⟩ := L.shpV_i64 Try.underlying2 s1
          obtain ⟨p2, rfl, kl2, ko2⟩ := L.shpV_slice (s := 1) (f := (cI .i64)) (ok := fun z => L.i64 z) Try.underlying26 (by kernel_rfl) (fun k ds h => el_t2 k ds h) s2
          obtain ⟨p3, rfl, k3⟩ := L.shpV_i64 Try.underlying2 s3
          obtain ⟨k, hk⟩ := (law_mixbegin p0 p1 p2 p3 (args64_of k0) k0.1 (codes_of k0)).ex
          exact c_laws_FnExactMixBegin hk

theorem fnExactMixBegin_read : ∀ t ∈ Try.f8.params.toList, Try.prog.readableRec t = true ∧ t < Try.prog.types.size := by
  rw [Try.params8]
  intro t ht
  simp only [List.mem_cons, List.not_mem_nil, or_false] at ht
  rcases ht with rfl | rfl | rfl | rfl
  all_goals exact ⟨by kernel_rfl, of_decide_eq_true (by kernel_rfl)⟩
theorem fnExactMixBegin_plain : ∀ t ∈ Try.f8.params.toList, plainT Try.prog 12 t = true := by
  rw [Try.params8]
  intro t ht
  simp only [List.mem_cons, List.not_mem_nil, or_false] at ht
  rcases ht with rfl | rfl | rfl | rfl
  all_goals kernel_rfl

theorem fnExactMixBegin_lifted (os : Os) (started : os.Started) (H : Type) (enc : TypeId × Value → H) :
    ReturnsInHanded {} Try.checked os 8 .any (Rows.fnExactMixBeginSpec.pre6 enc Try.prog Try.f8 Rows.fnExactMixBeginRow.domain false) (Rows.fnExactMixBeginSpec.post enc Try.prog Try.f8 false true false false) := by
  refine returnsInHanded_of_change (C := Try.checked) Try.own started (by kernel_rfl) Try.func8
    (ChangeSpec.witness6 (enc := enc) (C := Try.checked) false ⟨#[], #[.agg #[.slice none 0 0], .int .i64 0, .slice none 0 0, .int .i64 0], []⟩ 8 (by kernel_rfl) (by kernel_rfl) (by kernel_rfl) (by kernel_rfl)) ?_
  intro W base args ds gs before hval hW hcnd _
  obtain ⟨p, q, hA0, -⟩ := id hW
  have hB0 : DataW.TrodAll enc Try.prog W 0 (fun _ => true) true Try.f8.params.toList args.toList ds p := hA0
  rw [Try.params8] at hB0
  obtain ⟨v0, vs0, d0, ds0, pa0, pb0, -, rfl, -, -, hB1⟩ := trodAll_cons hB0
  obtain ⟨v1, vs1, d1, ds1, pa1, pb1, -, rfl, -, -, hB2⟩ := trodAll_cons hB1
  obtain ⟨v2, vs2, d2, ds2, pa2, pb2, -, rfl, -, -, hB3⟩ := trodAll_cons hB2
  obtain ⟨v3, vs3, d3, ds3, pa3, pb3, -, rfl, -, -, hB4⟩ := trodAll_cons hB3
  obtain ⟨-, rfl, -⟩ := trodAll_nil hB4
  exact row_contract Try.laidOut fnExactMixBegin_con fnExactMixBegin_plain fnExactMixBegin_read rfl rfl Try.underlying4 rfl hval hW

theorem fnExactMixBegin_holds : Rows.FnExactMixBeginSaid :=
  OpenClaim.holds_of_wide 8 Try.f8 rfl rfl rfl rfl rfl rfl rfl ⟨rfl, rfl, rfl, rfl, rfl⟩ rfl rfl rfl rfl rfl (by kernel_rfl) Try.func8 (by kernel_rfl)
    (of_decide_eq_true (by kernel_rfl)) (by unfold Func.isWrapper; first | (rw [if_pos (by decide +kernel)]; kernel_rfl) | (rw [if_neg (by decide +kernel)]; exact ⟨rfl, rfl⟩))
    (fun os started H enc _ => fnExactMixBegin_lifted os started H enc)

end Go.Proofs.Ytdlaplgofgklnaa
