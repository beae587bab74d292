/- WHAT IS PROVED: an abstract walker over the model, what some functions of the program answer, and laws of these answers. Conditions: none. -/
import Derived.Test.YtdlaplgofgklnaaGreatKs19
namespace Go.Proofs.YtdlaplgofgklnaaGreat
open Go.Proofs Go.Proofs.YtdlaplgofgklnaaGreat.L
set_option linter.unusedVariables false
set_option linter.unusedSimpArgs false
theorem StRight.small {p : GProgram} {hs : List (List Int)} (hp : RightP p) (ht : Hts p hs) {s : GState} (h : StRight p hs s) : SmallS s := by
  have h1 := h.deep
  have h2 := h.few
  have h3 := h.out
  have h4 := h.fuel
  refine ⟨by omega, fun f hf => ?_, by omega, fun l hl => by have := h.arr l hl; omega, by omega⟩
  obtain ⟨j, hj⟩ := List.getElem?_of_mem hf
  obtain ⟨g, x, m, hh, y, F⟩ := h.frames j f (by omega) hj
  have hmem := List.mem_of_getElem? F.m_
  obtain ⟨h', q1, q2, q3⟩ := ht.at_ g m F.m_
  have eh : h' = hh := by have := F.h_; rw [q1] at this; exact Option.some.inj this
  subst eh
  have hy := (heights_past hp hmem q2).2.1 x y F.y_
  have hl := (hp.all m hmem).1.locals
  have h5 := F.locals
  have h6 := F.y0
  unfold A1 at hy
  refine ⟨by omega, ?_⟩
  by_cases c : bhOf s.frames j < 0
  · have := F.last c; omega
  · have := (F.mid (by omega)).2.2.2; omega
theorem not_right {p : GProgram} (ha : Args64 p) (hn : p.funcs.length ≤ 1048576) (hp : ¬ RightP p) (s : GState) : Ev (fun k => spec_StateRight k p s) false := by
  obtain ⟨v, hv, hv2⟩ := specVerify ha hn
  have hr : Ev (fun k => spec_l04Right k p) false := by
    unfold spec_l04Right
    refine Ev.bind hv (Ev.const ?_)
    have : ¬ v.c = 0 := fun h => hp (hv2.1 h)
    rw [show (v.c == 0) = false by simp [this]]
  unfold spec_StateRight
  refine Ev.bind (a := Sum.inl false) ?_ Ev.pure
  unfold spec_StateRight.a1
  exact Ev.bind hr (Ev.ct rfl Ev.pure)
theorem goes_eq (s : GState) : spec_l06Goes s = some (!s.done && decide (s.fuel0 > 0)) := by
  unfold spec_l06Goes; cases s.done <;> rfl
theorem alive_eq (g : Gprog) (fs : List GFrame) (s : GState) : impl_run_alive ⟨g, fs, worldOf s⟩ = some (!s.done && decide (s.fuel0 > 0)) := by
  unfold impl_run_alive worldOf; cases s.done <;> rfl
theorem state_eq (g : Gprog) (s : GState) : impl_run_state ⟨g, s.frames, worldOf s⟩ = some s := rfl
theorem step_law {p : GProgram} (ha : Args64 p) (hn : p.funcs.length ≤ 1048576) {s : GState} (hS : SmallS s) : ∃ r, Ev (fun k => impl_Step k p s) r ∧ Ev (fun k => spec_Step k p s) r ∧ SmallS r := by
  obtain ⟨hs, ok, hk, hok, hts⟩ := known_ev ha hn
  by_cases hp : RightP p
  · have e1 : ok = true := hok.2 hp
    subst e1
    have ht := hts hp
    obtain ⟨b, q1, q2, q3⟩ := right_both ha hn hp ht hS
    cases b with
    | false =>
      refine ⟨s, ?_, ?_, hS⟩
      · unfold impl_Step
        refine Ev.bind hk (Ev.bind (a := Sum.inl s) ?_ Ev.pure)
        unfold impl_Step.a1
        exact Ev.cf rfl (Ev.bind q1 (Ev.ct rfl (Ev.bind (own_ev hS) Ev.pure)))
      · unfold spec_Step
        exact Ev.bind (copy_ev hS) (Ev.bind q2 (Ev.cf rfl Ev.pure))
    | true =>
      have hR := q3 rfl
      have hA : Ev (fun k => impl_Step.a1 k s.frames s.heap s.out s.fuel0 s.done s.value s.trap ⟨[], [], [], 0, false, 0, 0⟩ ⟨p, hs⟩ true) (.inr (s.frames, s.heap, s.out, s.fuel0, s.done, s.value, s.trap, ⟨[], [], [], 0, false, 0, 0⟩, ⟨p, hs⟩)) := by
        unfold impl_Step.a1
        exact Ev.cf rfl (Ev.bind q1 (Ev.cf rfl Ev.pure))
      by_cases c : s.done = false ∧ 0 < s.fuel0
      · obtain ⟨s', r1, r2, r3, r4⟩ := step_both hp ht hR c.1 c.2
        have e0 : (!s.done && decide (s.fuel0 > 0)) = true := by rw [c.1, dt (show s.fuel0 > 0 from c.2)]; rfl
        refine ⟨s', ?_, ?_, r3.small hp ht⟩
        · unfold impl_Step
          exact Ev.bind hk (Ev.bind hA (Ev.bind (runOf_ev _ hS) (Ev.bind (Ev.const (alive_eq _ _ _)) (Ev.ct e0 (Ev.bind (Ev.of r1) (Ev.bind (Ev.const (state_eq _ _)) Ev.pure))))))
        · unfold spec_Step
          exact Ev.bind (copy_ev hS) (Ev.bind q2 (Ev.ct rfl (Ev.bind (Ev.const (goes_eq _)) (Ev.ct e0 (Ev.bind (Ev.of r2) Ev.pure)))))
      · have e0 : (!s.done && decide (s.fuel0 > 0)) = false := by
          cases hd : s.done with
          | true => rfl
          | false => rw [df (show ¬ s.fuel0 > 0 from fun h => c ⟨hd, h⟩)]; rfl
        refine ⟨s, ?_, ?_, hS⟩
        · unfold impl_Step
          exact Ev.bind hk (Ev.bind hA (Ev.bind (runOf_ev _ hS) (Ev.bind (Ev.const (alive_eq _ _ _)) (Ev.cf e0 (Ev.bind (Ev.const (state_eq _ _)) Ev.pure)))))
        · unfold spec_Step
          exact Ev.bind (copy_ev hS) (Ev.bind q2 (Ev.ct rfl (Ev.bind (Ev.const (goes_eq _)) (Ev.cf e0 Ev.pure))))
  · have e1 : ok = false := by
      cases ok with
      | false => rfl
      | true => exact absurd (hok.1 rfl) hp
    subst e1
    refine ⟨s, ?_, ?_, hS⟩
    · unfold impl_Step
      refine Ev.bind hk (Ev.bind (a := Sum.inl s) ?_ Ev.pure)
      unfold impl_Step.a1
      exact Ev.ct rfl (Ev.bind (own_ev hS) Ev.pure)
    · unfold spec_Step
      exact Ev.bind (copy_ev hS) (Ev.bind (not_right ha hn hp s) (Ev.cf rfl Ev.pure))
theorem run_loop {p : GProgram} {hs : List (List Int)} (hp : RightP p) (ht : Hts p hs) (z : GState) : ∀ (n : Nat) (s : GState), s.fuel0.toNat = n → StRight p hs s →
    ∃ r, Ev (fun k => impl_Run.l2 k z ⟨⟨p, hs⟩, s.frames, worldOf s⟩) (z, ⟨⟨p, hs⟩, r.frames, worldOf r⟩) ∧ Ev (fun k => spec_Run.l1 k p.funcs z s) (z, r) ∧ StRight p hs r := by
  intro n
  induction n with
  | zero =>
    intro s hn hR
    have e0 : (!s.done && decide (s.fuel0 > 0)) = false := by rw [df (show ¬ s.fuel0 > 0 by omega)]; simp
    refine ⟨s, Ev.succ ?_, Ev.succ ?_, hR⟩
    · simp only [impl_Run.l2]
      exact Ev.bind (Ev.const (alive_eq _ _ _)) (Ev.cf e0 Ev.pure)
    · simp only [spec_Run.l1]
      exact Ev.bind (Ev.const (goes_eq _)) (Ev.cf e0 Ev.pure)
  | succ n ih =>
    intro s hn hR
    by_cases c : s.done = false
    · have c2 : 0 < s.fuel0 := by omega
      obtain ⟨s', r1, r2, r3, r4⟩ := step_both hp ht hR c c2
      have e0 : (!s.done && decide (s.fuel0 > 0)) = true := by rw [c, dt (show s.fuel0 > 0 from c2)]; rfl
      obtain ⟨r, g1, g2, g3⟩ := ih s' (by omega) r3
      refine ⟨r, Ev.succ ?_, Ev.succ ?_, g3⟩
      · simp only [impl_Run.l2]
        exact Ev.bind (Ev.const (alive_eq _ _ _)) (Ev.ct e0 (Ev.bind (Ev.of r1) g1))
      · simp only [spec_Run.l1]
        exact Ev.bind (Ev.const (goes_eq _)) (Ev.ct e0 (Ev.bind (Ev.of r2) g2))
    · have e0 : (!s.done && decide (s.fuel0 > 0)) = false := by
        cases hd : s.done with
        | true => rfl
        | false => exact absurd hd c
      refine ⟨s, Ev.succ ?_, Ev.succ ?_, hR⟩
      · simp only [impl_Run.l2]
        exact Ev.bind (Ev.const (alive_eq _ _ _)) (Ev.cf e0 Ev.pure)
      · simp only [spec_Run.l1]
        exact Ev.bind (Ev.const (goes_eq _)) (Ev.cf e0 Ev.pure)
theorem run_law {p : GProgram} (ha : Args64 p) (hn : p.funcs.length ≤ 1048576) {s : GState} (hS : SmallS s) : ∃ r, Ev (fun k => impl_Run k p s) r ∧ Ev (fun k => spec_Run k p s) r ∧ SmallS r := by
  obtain ⟨hs, ok, hk, hok, hts⟩ := known_ev ha hn
  by_cases hp : RightP p
  · have e1 : ok = true := hok.2 hp
    subst e1
    have ht := hts hp
    obtain ⟨b, q1, q2, q3⟩ := right_both ha hn hp ht hS
    cases b with
    | false =>
      refine ⟨s, ?_, ?_, hS⟩
      · unfold impl_Run
        refine Ev.bind hk (Ev.bind (a := Sum.inl s) ?_ Ev.pure)
        unfold impl_Run.a1
        exact Ev.cf rfl (Ev.bind q1 (Ev.ct rfl (Ev.bind (own_ev hS) Ev.pure)))
      · unfold spec_Run
        exact Ev.bind (copy_ev hS) (Ev.bind q2 (Ev.ct rfl Ev.pure))
    | true =>
      have hR := q3 rfl
      have hA : Ev (fun k => impl_Run.a1 k s.frames s.heap s.out s.fuel0 s.done s.value s.trap ⟨[], [], [], 0, false, 0, 0⟩ ⟨p, hs⟩ true) (.inr (s.frames, s.heap, s.out, s.fuel0, s.done, s.value, s.trap, ⟨[], [], [], 0, false, 0, 0⟩, ⟨p, hs⟩)) := by
        unfold impl_Run.a1
        exact Ev.cf rfl (Ev.bind q1 (Ev.cf rfl Ev.pure))
      obtain ⟨r, r1, r2, r3⟩ := run_loop hp ht ⟨[], [], [], 0, false, 0, 0⟩ _ s rfl hR
      refine ⟨r, ?_, ?_, r3.small hp ht⟩
      · unfold impl_Run
        exact Ev.bind hk (Ev.bind hA (Ev.bind (runOf_ev _ hS) (Ev.bind r1 (Ev.bind (Ev.const (state_eq _ _)) Ev.pure))))
      · unfold spec_Run
        exact Ev.bind (copy_ev hS) (Ev.bind q2 (Ev.cf rfl (Ev.bind r2 Ev.pure)))
  · have e1 : ok = false := by
      cases ok with
      | false => rfl
      | true => exact absurd (hok.1 rfl) hp
    subst e1
    refine ⟨s, ?_, ?_, hS⟩
    · unfold impl_Run
      refine Ev.bind hk (Ev.bind (a := Sum.inl s) ?_ Ev.pure)
      unfold impl_Run.a1
      exact Ev.ct rfl (Ev.bind (own_ev hS) Ev.pure)
    · unfold spec_Run
      exact Ev.bind (copy_ev hS) (Ev.bind (not_right ha hn hp s) (Ev.ct rfl Ev.pure))
theorem szProgram_b (p : GProgram) (hn : p.funcs.length ≤ 9223372036854775807) (hc : ∀ f ∈ p.funcs, f.code.length ≤ 9223372036854775807) :
    ∃ t, Ev (fun k => laws_szProgram k p 1048576) t ∧ (t < 0 ∨ (0 ≤ t ∧ t ≤ 1048576 ∧ Small p)) := by
  by_cases c : (1048576 : Int) < p.funcs.length
  · refine ⟨-1, ?_, .inl (by omega)⟩
    refine Ev.bind (a := -1) ?_ (Ev.ct (dt (by omega)) Ev.pure)
    unfold laws_szFuncS
    rw [wrap_id (by omega) (by omega)]
    exact Ev.ct (dt (by omega)) Ev.pure
  · obtain ⟨r, hr, h⟩ := szFuncS_l p.funcs (by omega) hc _ 0 (1048576 - p.funcs.length) rfl (by omega) (by omega) (by omega)
    have key : ∀ x, (r = .inl x ∨ r = .inr x) → Ev (fun k => laws_szFuncS k p.funcs 1048576) x := by
      intro x hx
      unfold laws_szFuncS
      rw [wrap_id (by omega) (by omega)]
      refine Ev.cf (df (by omega)) (Ev.bind hr ?_)
      rcases hx with rfl | rfl <;> exact Ev.pure
    rcases h with ⟨x, rfl, rfl⟩ | ⟨x, rfl, h1, h2, h3⟩
    · exact ⟨-1, Ev.bind (key _ (.inl rfl)) (Ev.ct (dt (by omega)) Ev.pure), .inl (by omega)⟩
    · refine ⟨x, Ev.bind (key _ (.inr rfl)) (Ev.cf (df (by omega)) Ev.pure), .inr ⟨h1, by omega, ⟨by omega, fun f hf => ?_⟩⟩⟩
      obtain ⟨j, hj⟩ := List.getElem?_of_mem hf
      have := h3 j f (by omega) hj
      omega
theorem law_step (p : GProgram) (s : GState) (ha : Args64 p) (h1 : p.funcs.length ≤ 9223372036854775807) (h2 : ∀ m ∈ p.funcs, m.code.length ≤ 9223372036854775807) (hB : BigS s) : Ev (fun k => laws_FnExactStep k p s) true := by
  unfold laws_FnExactStep
  obtain ⟨t, ht, hcase⟩ := szProgram_b p h1 h2
  rcases hcase with h | ⟨h, hle, hS⟩
  · exact Ev.bind ht (Ev.ct (dt h) Ev.pure)
  obtain ⟨u, hu, hcase2⟩ := szState_ex hB t h hle
  rcases hcase2 with h' | ⟨h', hT⟩
  · exact Ev.bind ht (Ev.cf (df (by omega)) (Ev.bind hu (Ev.ct (dt h') Ev.pure)))
  obtain ⟨r, p1, p2, p3⟩ := step_law ha hS.funcs hT
  have q1 := eqState_ev p3
  obtain ⟨mk, n2, m1, m2, m5⟩ := markProgram_b hS
  have hS1 := hS.funcs
  obtain ⟨n3, fr, hp, o, m3, m4, m6, m7, -⟩ := markState_ev hT n2 (by omega)
  obtain ⟨n4, fr4, hp4, o4, k1, k2, k3, k4, k5⟩ := markState_ev p3 1 (by omega)
  have tp := toProgram_ev hS
  have ts := toState_ev hT
  refine Ev.bind ht (Ev.cf (df (by omega)) (Ev.bind hu (Ev.cf (df (by omega)) (Ev.bind tp (Ev.bind ts (Ev.bind p2 (Ev.bind tp (Ev.bind ts (Ev.bind p1 (Ev.bind q1 (Ev.cf rfl (Ev.bind tp (Ev.bind (eqProgram_ev hS) (Ev.cf rfl (Ev.bind ts (Ev.bind (eqState_ev hT) (Ev.cf rfl (Ev.bind m1 (Ev.gd m2 (Ev.bind m3 (Ev.gd m4 (Ev.gd m6 (Ev.gd m7 (Ev.bind (a := .inr (p.funcs, s.frames, s.heap, s.out, s.fuel0, s.done, s.value, s.trap, r, r)) ?_ ?_))))))))))))))))))))))))
  · unfold laws_FnExactStep.a1
    exact Ev.cf (df (by omega)) (Ev.bind q1 (Ev.cf rfl Ev.pure))
  · simp only [Sum.elim_inr]
    refine Ev.bind k1 (Ev.gd k2 (Ev.gd k3 (Ev.gd k4 (Ev.bind (k5 _ _ _ _) (Ev.cf (df (by omega)) (Ev.cf (by simp) (Ev.bind tp (Ev.bind ts (Ev.bind p1 (Ev.bind q1 (Ev.cf rfl (Ev.bind (k5 _ _ _ _) (Ev.cf (df (by omega)) (Ev.cf (by simp) Ev.pure))))))))))))))
theorem law_run (p : GProgram) (s : GState) (ha : Args64 p) (h1 : p.funcs.length ≤ 9223372036854775807) (h2 : ∀ m ∈ p.funcs, m.code.length ≤ 9223372036854775807) (hB : BigS s) : Ev (fun k => laws_FnExactRun k p s) true := by
  unfold laws_FnExactRun
  obtain ⟨t, ht, hcase⟩ := szProgram_b p h1 h2
  rcases hcase with h | ⟨h, hle, hS⟩
  · exact Ev.bind ht (Ev.ct (dt h) Ev.pure)
  obtain ⟨u, hu, hcase2⟩ := szState_ex hB t h hle
  rcases hcase2 with h' | ⟨h', hT⟩
  · exact Ev.bind ht (Ev.cf (df (by omega)) (Ev.bind hu (Ev.ct (dt h') Ev.pure)))
  obtain ⟨r, p1, p2, p3⟩ := run_law ha hS.funcs hT
  have q1 := eqState_ev p3
  obtain ⟨mk, n2, m1, m2, m5⟩ := markProgram_b hS
  have hS1 := hS.funcs
  obtain ⟨n3, fr, hp, o, m3, m4, m6, m7, -⟩ := markState_ev hT n2 (by omega)
  obtain ⟨n4, fr4, hp4, o4, k1, k2, k3, k4, k5⟩ := markState_ev p3 1 (by omega)
  have tp := toProgram_ev hS
  have ts := toState_ev hT
  refine Ev.bind ht (Ev.cf (df (by omega)) (Ev.bind hu (Ev.cf (df (by omega)) (Ev.bind tp (Ev.bind ts (Ev.bind p2 (Ev.bind tp (Ev.bind ts (Ev.bind p1 (Ev.bind q1 (Ev.cf rfl (Ev.bind tp (Ev.bind (eqProgram_ev hS) (Ev.cf rfl (Ev.bind ts (Ev.bind (eqState_ev hT) (Ev.cf rfl (Ev.bind m1 (Ev.gd m2 (Ev.bind m3 (Ev.gd m4 (Ev.gd m6 (Ev.gd m7 (Ev.bind (a := .inr (p.funcs, s.frames, s.heap, s.out, s.fuel0, s.done, s.value, s.trap, r, r)) ?_ ?_))))))))))))))))))))))))
  · unfold laws_FnExactRun.a1
    exact Ev.cf (df (by omega)) (Ev.bind q1 (Ev.cf rfl Ev.pure))
  · simp only [Sum.elim_inr]
    refine Ev.bind k1 (Ev.gd k2 (Ev.gd k3 (Ev.gd k4 (Ev.bind (k5 _ _ _ _) (Ev.cf (df (by omega)) (Ev.cf (by simp) (Ev.bind tp (Ev.bind ts (Ev.bind p1 (Ev.bind q1 (Ev.cf rfl (Ev.bind (k5 _ _ _ _) (Ev.cf (df (by omega)) (Ev.cf (by simp) Ev.pure))))))))))))))
end Go.Proofs.YtdlaplgofgklnaaGreat