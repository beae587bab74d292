/- WHAT IS PROVED: the law FnExactLoops of the program, for every input. Conditions: none. -/
import Derived.Test.YtdlaplgofgklnaaKl6
namespace Go.Proofs.Ytdlaplgofgklnaa
open Go.Proofs Go.Proofs.Ytdlaplgofgklnaa.L
set_option linter.unusedVariables false
set_option linter.unusedSimpArgs false

/-- A right program. -/
structure RightP (p : GProgram) : Prop where
  many : 1 ≤ p.funcs.length ∧ p.funcs.length ≤ 6
  all : ∀ m ∈ p.funcs, FormOk p m ∧ ∃ h, RunN p m (some h)
theorem RightP.normal {p : GProgram} (h : RightP p) : Normal p := fun m hm => (h.all m hm).1.args

/-- The heights of its functions. -/
structure Hts (p : GProgram) (hs : List (List Int)) : Prop where
  len : hs.length = p.funcs.length
  at_ : ∀ (x : Nat) (m : GFunc), p.funcs[x]? = some m → ∃ h, hs[x]? = some h ∧ RunN p m (some h) ∧ h.length = m.code.length

theorem inv1 (n : Nat) : HInv A1 W1 (h0 n) (w0 n) := h0_inv n (by omega) (by omega) (by omega)
theorem runI_N {p : GProgram} (hN : Normal p) {m : GFunc} {r : Option (List Int)} (h : RunI p m r) : RunN p m r := run_N hN (fun x h w hh hw => stepI_N hN hh hw) h (inv1 _)
theorem runS_N {p : GProgram} (hN : Normal p) {m : GFunc} {r : Option (List Int)} (h : RunS p m r) : RunN p m r := run_N hN (fun x h w hh hw => stepS_N hN hh hw) h (inv1 _)
theorem runN_I {p : GProgram} (ha : Args64 p) (hN : Normal p) {m : GFunc} {r : Option (List Int)} (h : RunN p m r) : RunI p m r := by
  obtain ⟨r', h'⟩ := run_ex (goodI p m.code ha) _ _ _ rfl (h0_len _) (h0_inv m.code.length (by omega) (by omega) (by omega))
  rw [run_same h (runI_N hN h')]
  exact h'
theorem runN_S {p : GProgram} (ha : Args64 p) (hN : Normal p) {m : GFunc} {r : Option (List Int)} (h : RunN p m r) : RunS p m r := by
  obtain ⟨r', h'⟩ := run_ex (goodS p m.code ha) _ _ _ rfl (h0_len _) (h0_inv m.code.length (by omega) (by omega) (by omega))
  rw [run_same h (runS_N hN h')]
  exact h'

theorem implVerLoop {p : GProgram} (ha : Args64 p) (hl : p.funcs.length ≤ 6) (z : GI3) : ∀ (d j : Nat) (hs : List (List Int)), p.funcs.length - j = d → j ≤ p.funcs.length → hs.length = j →
    (∀ (x : Nat) (m : GFunc), x < j → p.funcs[x]? = some m → ∃ h, hs[x]? = some h ∧ FormOk p m ∧ RunI p m (some h) ∧ h.length = m.code.length) →
    (∃ e : GI3, e.c ≠ 0 ∧ (∃ m ∈ p.funcs, ∀ h, ¬ (FormOk p m ∧ RunI p m (some h))) ∧ Ev (fun k => impl_verify.l2 k p.funcs z hs p.funcs (p.funcs.length : Int) (j : Int)) (.inl (e, []))) ∨
    (∃ hs', Ev (fun k => impl_verify.l2 k p.funcs z hs p.funcs (p.funcs.length : Int) (j : Int)) (.inr (z, hs')) ∧ hs'.length = p.funcs.length ∧ ∀ (x : Nat) (m : GFunc), p.funcs[x]? = some m → ∃ h, hs'[x]? = some h ∧ FormOk p m ∧ RunI p m (some h) ∧ h.length = m.code.length) := by
  intro d
  induction d with
  | zero =>
    intro j hs hd hj hlen hall
    right
    refine ⟨hs, ?_, by omega, fun x m hm => hall x m (by have := (List.getElem?_eq_some_iff.1 hm).1; omega) hm⟩
    refine Ev.succ ?_
    simp only [impl_verify.l2]
    exact Ev.cf (df (by omega)) Ev.pure
  | succ d ih =>
    intro j hs hd hj hlen hall
    obtain ⟨m, hm⟩ := list_get (show j < p.funcs.length by omega)
    rcases implFunc ha hm z (p.funcs.length : Int) with ⟨e, he, hno, hev⟩ | ⟨h, hF, hI, hlh, hev⟩
    · left
      refine ⟨e, he, ⟨m, List.mem_of_getElem? hm, hno⟩, ?_⟩
      refine Ev.succ ?_
      simp only [impl_verify.l2]
      exact Ev.ct (dt (by omega)) (Ev.bind (hev hs) Ev.pure)
    · have hall' : ∀ (x : Nat) (m : GFunc), x < j + 1 → p.funcs[x]? = some m → ∃ h', (hs ++ [h])[x]? = some h' ∧ FormOk p m ∧ RunI p m (some h') ∧ h'.length = m.code.length := by
        intro x m' hx hm'
        by_cases c : x < j
        · obtain ⟨h', g1, g2⟩ := hall x m' c hm'
          exact ⟨h', by rw [List.getElem?_append_left (by omega)]; exact g1, g2⟩
        · have : x = j := by omega
          subst this
          rw [hm] at hm'
          cases hm'
          exact ⟨h, by rw [List.getElem?_append_right (by omega)]; simp [hlen], hF, hI, hlh⟩
      have step : ∀ o, Ev (fun k => impl_verify.l2 k p.funcs z (hs ++ [h]) p.funcs (p.funcs.length : Int) ((j + 1 : Nat) : Int)) o → Ev (fun k => impl_verify.l2 k p.funcs z hs p.funcs (p.funcs.length : Int) (j : Int)) o := by
        intro o ho
        refine Ev.succ ?_
        simp only [impl_verify.l2]
        refine Ev.ct (dt (by omega)) (Ev.bind (hev hs (by omega)) ?_)
        simp only [Sum.elim_inr]
        rw [wrap_nat (by omega)]
        exact ho
      rcases ih (j + 1) (hs ++ [h]) (by omega) (by omega) (by simp [hlen]) hall' with ⟨e, h1, h2, h3⟩ | ⟨hs', h1, h2⟩
      · exact .inl ⟨e, h1, h2, step _ h3⟩
      · exact .inr ⟨hs', step _ h1, h2⟩

theorem implVerify {p : GProgram} (ha : Args64 p) (hn : p.funcs.length ≤ 1048576) : ∃ r, Ev (fun k => impl_verify k p) r ∧ ((r.1.c = 0 ∧ RightP p ∧ Hts p r.2) ∨ (r.1.c ≠ 0 ∧ ¬ RightP p)) := by
  by_cases c1 : p.funcs.length < 1
  · refine ⟨(⟨0, 0, 1⟩, []), ?_, .inr ⟨by simp, fun h => by have := h.many; omega⟩⟩
    unfold impl_verify impl_verify.a1
    exact Ev.bind (Ev.ct (dt (by omega)) Ev.pure) Ev.pure
  by_cases c2 : p.funcs.length > 6
  · refine ⟨(⟨0, 0, 1⟩, []), ?_, .inr ⟨by simp, fun h => by have := h.many; omega⟩⟩
    unfold impl_verify impl_verify.a1
    exact Ev.bind (Ev.cf (df (by omega)) (Ev.ct (dt (by omega)) Ev.pure)) Ev.pure
  have ha1 : Ev (fun k => impl_verify.a1 k p.funcs ⟨0, 0, 0⟩) (.inr (p.funcs, ⟨0, 0, 0⟩)) := by
    unfold impl_verify.a1
    exact Ev.cf (df (by omega)) (Ev.cf (df (by omega)) Ev.pure)
  rcases implVerLoop ha (by omega) ⟨0, 0, 0⟩ _ 0 [] rfl (by omega) rfl (fun x m hx => by omega) with ⟨e, h1, ⟨m, hm, hno⟩, h3⟩ | ⟨hs', h1, h2, h3⟩
  · refine ⟨(e, []), ?_, .inr ⟨h1, fun h => ?_⟩⟩
    · unfold impl_verify
      exact Ev.bind ha1 (Ev.bind h3 Ev.pure)
    · obtain ⟨g1, hh, g2⟩ := h.all m hm
      exact hno hh ⟨g1, runN_I ha h.normal g2⟩
  · have hN : Normal p := by
      intro m hm
      obtain ⟨x, hx⟩ := List.getElem?_of_mem hm
      obtain ⟨h, -, g, -⟩ := h3 x m hx
      exact g.args
    refine ⟨(⟨0, 0, 0⟩, hs'), ?_, .inl ⟨rfl, ⟨⟨by omega, by omega⟩, fun m hm => ?_⟩, ⟨h2, fun x m hx => ?_⟩⟩⟩
    · unfold impl_verify
      exact Ev.bind ha1 (Ev.bind h1 Ev.pure)
    · obtain ⟨x, hx⟩ := List.getElem?_of_mem hm
      obtain ⟨h, -, g1, g2, -⟩ := h3 x m hx
      exact ⟨g1, h, runI_N hN g2⟩
    · obtain ⟨h, g0, g1, g2, g3⟩ := h3 x m hx
      exact ⟨h, g0, runI_N hN g2, g3⟩

theorem specVerLoop {p : GProgram} (ha : Args64 p) (hl : p.funcs.length ≤ 6) (z : GI3) : ∀ (d j : Nat), p.funcs.length - j = d → j ≤ p.funcs.length →
    (∃ e : GI3, e.c ≠ 0 ∧ (∃ m ∈ p.funcs, ¬ (FormOk p m ∧ ∃ h, RunS p m (some h))) ∧ Ev (fun k => spec_Verify.l2 k p.funcs z (j : Int)) (.inl e)) ∨
    (Ev (fun k => spec_Verify.l2 k p.funcs z (j : Int)) (.inr z) ∧ ∀ (x : Nat) (m : GFunc), j ≤ x → p.funcs[x]? = some m → FormOk p m ∧ ∃ h, RunS p m (some h)) := by
  intro d
  induction d with
  | zero =>
    intro j hd hj
    right
    refine ⟨?_, fun x m hx hm => by have := (List.getElem?_eq_some_iff.1 hm).1; omega⟩
    refine Ev.succ ?_
    simp only [spec_Verify.l2]
    exact Ev.cf (df (by omega)) Ev.pure
  | succ d ih =>
    intro j hd hj
    obtain ⟨m, hm⟩ := list_get (show j < p.funcs.length by omega)
    obtain ⟨o, ho, hiff⟩ := specFunc ha hm
    by_cases c : o.c = 0
    · have step : ∀ o', Ev (fun k => spec_Verify.l2 k p.funcs z ((j + 1 : Nat) : Int)) o' → Ev (fun k => spec_Verify.l2 k p.funcs z (j : Int)) o' := by
        intro o' ho'
        refine Ev.succ ?_
        simp only [spec_Verify.l2]
        refine Ev.ct (dt (by omega)) (Ev.bind ho (Ev.cf (by simp [c]) ?_))
        rw [wrap_nat (by omega)]
        exact ho'
      rcases ih (j + 1) (by omega) (by omega) with ⟨e, h1, h2, h3⟩ | ⟨h1, h2⟩
      · exact .inl ⟨e, h1, h2, step _ h3⟩
      · refine .inr ⟨step _ h1, fun x m' hx hm' => ?_⟩
        by_cases e : x = j
        · subst e
          rw [hm] at hm'
          cases hm'
          exact hiff.1 c
        · exact h2 x m' (by omega) hm'
    · left
      refine ⟨o, c, ⟨m, List.mem_of_getElem? hm, fun h => c (hiff.2 h)⟩, ?_⟩
      refine Ev.succ ?_
      simp only [spec_Verify.l2]
      exact Ev.ct (dt (by omega)) (Ev.bind ho (Ev.ct (by simp [c]) Ev.pure))

theorem specVerify {p : GProgram} (ha : Args64 p) (hn : p.funcs.length ≤ 1048576) : ∃ s, Ev (fun k => spec_Verify k p) s ∧ (s.c = 0 ↔ RightP p) := by
  by_cases c1 : p.funcs.length < 1
  · refine ⟨⟨0, 0, 1⟩, ?_, ⟨fun h => (by cases h), fun h => by have := h.many; omega⟩⟩
    unfold spec_Verify spec_Verify.a1
    exact Ev.bind (Ev.ct (dt (by omega)) Ev.pure) Ev.pure
  by_cases c2 : p.funcs.length > 6
  · refine ⟨⟨0, 0, 1⟩, ?_, ⟨fun h => (by cases h), fun h => by have := h.many; omega⟩⟩
    unfold spec_Verify spec_Verify.a1
    exact Ev.bind (Ev.cf (df (by omega)) (Ev.ct (dt (by omega)) Ev.pure)) Ev.pure
  have ha1 : Ev (fun k => spec_Verify.a1 k p.funcs ⟨0, 0, 0⟩) (.inr (p.funcs, ⟨0, 0, 0⟩)) := by
    unfold spec_Verify.a1
    exact Ev.cf (df (by omega)) (Ev.cf (df (by omega)) Ev.pure)
  rcases specVerLoop ha (by omega) ⟨0, 0, 0⟩ _ 0 rfl (by omega) with ⟨e, h1, ⟨m, hm, hno⟩, h3⟩ | ⟨h1, h2⟩
  · refine ⟨e, ?_, ⟨fun h => absurd h h1, fun h => ?_⟩⟩
    · unfold spec_Verify
      exact Ev.bind ha1 (Ev.bind h3 Ev.pure)
    · obtain ⟨g1, hh, g2⟩ := h.all m hm
      exact absurd ⟨g1, hh, runN_S ha h.normal g2⟩ hno
  · have hN : Normal p := by
      intro m hm
      obtain ⟨x, hx⟩ := List.getElem?_of_mem hm
      exact (h2 x m (by omega) hx).1.args
    refine ⟨⟨0, 0, 0⟩, ?_, ⟨fun _ => ⟨⟨by omega, by omega⟩, fun m hm => ?_⟩, fun _ => rfl⟩⟩
    · unfold spec_Verify
      exact Ev.bind ha1 (Ev.bind h1 Ev.pure)
    · obtain ⟨x, hx⟩ := List.getElem?_of_mem hm
      obtain ⟨g1, h, g2⟩ := h2 x m (by omega) hx
      exact ⟨g1, h, runS_N hN g2⟩

/-! ### What the program knows -/
theorem known_ev {p : GProgram} (ha : Args64 p) (hn : p.funcs.length ≤ 1048576) : ∃ hs ok, Ev (fun k => impl_known k p) (⟨p, hs⟩, ok) ∧ (ok = true ↔ RightP p) ∧ (RightP p → Hts p hs) := by
  obtain ⟨r, hr, h⟩ := implVerify ha hn
  refine ⟨r.2, r.1.c == 0, Ev.bind hr Ev.pure, ?_, ?_⟩
  · rcases h with ⟨h1, h2, -⟩ | ⟨h1, h2⟩
    · simp [h1, h2]
    · simp [h1, h2]
  · intro hp
    rcases h with ⟨-, -, h3⟩ | ⟨-, h2⟩
    · exact h3
    · exact absurd hp h2

theorem hasFunc_eq (p : GProgram) (f : Int) : impl_hasFunc p f = some (decide (0 ≤ f ∧ f < (p.funcs.length : Int))) := by
  unfold impl_hasFunc
  by_cases h : 0 ≤ f
  · simp [h]
  · simp [h]

theorem knownFunc_ev {p : GProgram} (ha : Args64 p) (hn : p.funcs.length ≤ 1048576) (f : Int) : ∃ hs ok, Ev (fun k => impl_knownFunc k p f) (⟨p, hs⟩, ok) ∧ (ok = true ↔ RightP p ∧ 0 ≤ f ∧ f < (p.funcs.length : Int)) ∧ (RightP p → Hts p hs) := by
  obtain ⟨hs, ok, h1, h2, h3⟩ := known_ev ha hn
  cases ok with
  | true =>
    refine ⟨hs, decide (0 ≤ f ∧ f < (p.funcs.length : Int)), ?_, ?_, h3⟩
    · unfold impl_knownFunc
      refine Ev.bind h1 (Ev.ct rfl (Ev.bind (Ev.const (hasFunc_eq p f)) Ev.pure))
    · simp [h2.1 rfl]
  | false =>
    refine ⟨hs, false, ?_, ?_, h3⟩
    · unfold impl_knownFunc
      exact Ev.bind h1 (Ev.cf rfl Ev.pure)
    · have : ¬ RightP p := fun h => by cases h2.2 h
      simp [this]

theorem specIs_ev {p : GProgram} (ha : Args64 p) (hn : p.funcs.length ≤ 1048576) (f : Int) : ∃ ok, Ev (fun k => spec_l04Is k p f) ok ∧ (ok = true ↔ RightP p ∧ 0 ≤ f ∧ f < (p.funcs.length : Int)) := by
  obtain ⟨s, h1, h2⟩ := specVerify ha hn
  have hr : Ev (fun k => spec_l04Right k p) (s.c == 0) := Ev.bind h1 Ev.pure
  by_cases c : s.c = 0
  · refine ⟨decide (0 ≤ f ∧ f < (p.funcs.length : Int)), ?_, by simp [h2.1 c]⟩
    unfold spec_l04Is
    refine Ev.bind hr (Ev.ct (by simp [c]) ?_)
    by_cases h : 0 ≤ f
    · refine Ev.ct (dt h) ?_
      simp only [h, true_and]
      exact Ev.pure
    · refine Ev.cf (df h) ?_
      simp only [h, false_and, decide_false]
      exact Ev.pure
  · have : ¬ RightP p := fun h => c (h2.2 h)
    refine ⟨false, ?_, by simp [this]⟩
    unfold spec_l04Is
    exact Ev.bind hr (Ev.cf (by simp [c]) Ev.pure)

theorem specHeightsN {p : GProgram} (ha : Args64 p) (hp : RightP p) {f : Nat} {m : GFunc} (hm : p.funcs[f]? = some m) {h : List Int} (hr : RunN p m (some h)) : Ev (fun k => spec_l04Heights k p (f : Int)) (h, ⟨0, 0, 0⟩) := by
  have hF := (hp.all m (List.mem_of_getElem? hm)).1
  obtain ⟨o, ho, hres⟩ := specHeights hm hF.jumps hF.code.1 hF.code.2 (runN_S ha hp.normal hr)
  obtain ⟨rfl, -⟩ := hres
  exact ho

/-! ### What heights tell -/
/-- A place that has been gone through. -/
def Past (p : GProgram) (code : List GI2) (h : List Int) (x : Nat) (i : GI2) (y : Int) : Prop := takesL p i ≤ y ∧ y - takesL p i + putsL i ≤ 8 ∧ ∀ n ∈ nextL i (x : Int), n < (code.length : Int) ∧ h[n.toNat]? = some (y - takesL p i + putsL i)

theorem putN_keep {len : Nat} {v : Int} (hv : 0 ≤ v) : ∀ (ns : List Int) (h : List Int) (w : List Bool) (h' : List Int) (w' : List Bool), putN len v ns h w = some (h', w') →
    (∀ (j : Nat) (y : Int), h[j]? = some y → 0 ≤ y → h'[j]? = some y) ∧ (∀ (j : Nat), w[j]? = some true → w'[j]? = some true) ∧ (∀ (j : Nat) (y : Int), h'[j]? = some y → 0 ≤ y → h[j]? = some y ∨ w'[j]? = some true ∨ w.length ≤ j) ∧
    (∀ n ∈ ns, n < (len : Int) ∧ h'[n.toNat]? = some v) ∧ w'.length = w.length
  | [], h, w, h', w', hp => by
    simp only [putN, Option.some.injEq, Prod.mk.injEq] at hp
    obtain ⟨rfl, rfl⟩ := hp
    exact ⟨fun _ _ h _ => h, fun _ h => h, fun _ _ h _ => .inl h, fun n hn => (by cases hn), rfl⟩
  | n :: ns, h, w, h', w', hp => by
    simp only [putN] at hp
    split at hp
    · cases hp
    rename_i hlt
    split at hp
    · cases hp
    rename_i x hx
    split at hp
    · split at hp
      · rename_i h0x hxv
        obtain ⟨g1, g2, g3, g4, g5⟩ := putN_keep hv ns h w h' w' hp
        refine ⟨g1, g2, g3, fun m hm => ?_, g5⟩
        rcases List.mem_cons.1 hm with rfl | hm
        · exact ⟨by omega, by rw [← hxv]; exact g1 _ _ hx h0x⟩
        · exact g4 m hm
      · cases hp
    · rename_i hneg
      obtain ⟨g1, g2, g3, g4, g5⟩ := putN_keep hv ns _ _ h' w' hp
      have hn := (List.getElem?_eq_some_iff.1 hx).1
      refine ⟨fun j y hj hy => ?_, fun j hj => ?_, fun j y hj hy => ?_, fun m hm => ?_, by simpa using g5⟩
      · refine g1 j y ?_ hy
        by_cases e : n.toNat = j
        · subst e; rw [hx] at hj; cases hj; omega
        · rw [List.getElem?_set_ne e]; exact hj
      · refine g2 j ?_
        by_cases e : n.toNat = j
        · subst e; rw [List.getElem?_set_self (List.getElem?_eq_some_iff.1 hj).1]
        · rw [List.getElem?_set_ne e]; exact hj
      · rcases g3 j y hj hy with g | g | g
        · by_cases e : n.toNat = j
          · subst e
            by_cases hw : n.toNat < w.length
            · exact .inr (.inl (g2 _ (by rw [List.getElem?_set_self hw])))
            · exact .inr (.inr (by omega))
          · rw [List.getElem?_set_ne e] at g; exact .inl g
        · exact .inr (.inl g)
        · exact .inr (.inr (by simpa using g))
      · rcases List.mem_cons.1 hm with rfl | hm
        · exact ⟨by omega, g1 _ _ (by rw [List.getElem?_set_self hn]) hv⟩
        · exact g4 m hm

theorem run_past {p : GProgram} (hN : Normal p) {code : List GI2} {h : List Int} {w : List Bool} {r : Option (List Int)} (hr : HRun (stepN p code) h w r) : HInv A1 W1 h w →
    (∀ (x : Nat) (i : GI2) (y : Int), code[x]? = some i → h[x]? = some y → 0 ≤ y → w[x]? = some true ∨ Past p code h x i y) → ∀ hf, r = some hf → (∀ (x : Nat) (i : GI2) (y : Int), code[x]? = some i → hf[x]? = some y → 0 ≤ y → Past p code hf x i y) ∧ (∀ (x : Nat) (y : Int), hf[x]? = some y → A1 y) ∧ ∀ (x : Nat) (y : Int), h[x]? = some y → 0 ≤ y → hf[x]? = some y := by
  induction hr with
  | @done h w h1 =>
    intro hi hpast hf e
    cases e
    refine ⟨fun x i y hx hy h0y => ?_, hi.all, fun _ _ h _ => h⟩
    rcases hpast x i y hx hy h0y with g | g
    · exact absurd g (h1 x)
    · exact g
  | bad h1 h2 => intro hi hpast hf e; cases e
  | @go h h' w w' x r h1 h2 h3 ih =>
    intro hi hpast hf e
    have hi' := (stepN_inv hN hi h1.1 h2).1
    unfold stepN at h2
    split at h2
    · rename_i i y hx hy
      split at h2
      · cases h2
      split at h2
      · cases h2
      rename_i c1 c2
      have hpu := putsL_range i
      obtain ⟨g1, g2, g3, g4, g5⟩ := putN_keep (by omega) _ _ _ _ _ h2
      have := ih hi' (fun z j u hz hu h0u => ?_) hf e
      · exact ⟨this.1, this.2.1, fun z u hz h0u => this.2.2 z u (g1 z u hz h0u) h0u⟩
      · rcases g3 z u hu h0u with g | g | g
        · by_cases ez : z = x
          · subst ez
            rw [hx] at hz
            cases hz
            rw [hy] at g
            cases g
            exact .inr ⟨by omega, by omega, g4⟩
          · rcases hpast z j u hz g h0u with k | ⟨k1, k2, k3⟩
            · left
              refine g2 z ?_
              rw [List.getElem?_set_ne (fun e => ez e.symm)]
              exact k
            · refine .inr ⟨k1, k2, fun n hn => ⟨(k3 n hn).1, g1 _ _ (k3 n hn).2 ?_⟩⟩
              have := putsL_range j
              omega
        · exact .inl g
        · have h5 := (List.getElem?_eq_some_iff.1 hu).1
          have h6 := hi'.len
          simp at g g5
          omega
    · cases h2

/-- The heights of a function of a right program. -/
theorem heights_past {p : GProgram} (hp : RightP p) {m : GFunc} (hm : m ∈ p.funcs) {h : List Int} (hr : RunN p m (some h)) :
    (∀ (x : Nat) (i : GI2) (y : Int), m.code[x]? = some i → h[x]? = some y → 0 ≤ y → Past p m.code h x i y) ∧ (∀ (x : Nat) (y : Int), h[x]? = some y → A1 y) ∧ h[0]? = some 0 := by
  have hF := (hp.all m hm).1
  have hc := hF.code
  have key : ∀ (x : Nat) (i : GI2) (y : Int), m.code[x]? = some i → (h0 m.code.length)[x]? = some y → 0 ≤ y → (w0 m.code.length)[x]? = some true ∨ Past p m.code (h0 m.code.length) x i y := by
    intro x i y hx hy h0y
    left
    by_cases e : 0 = x
    · subst e
      unfold w0
      rw [List.getElem?_set_self (by simp; omega)]
    · unfold h0 at hy
      rw [List.getElem?_set_ne e, List.getElem?_replicate] at hy
      split at hy
      · cases hy; omega
      · cases hy
  obtain ⟨g1, g2, g3⟩ := run_past hp.normal hr (inv1 _) key h rfl
  refine ⟨g1, g2, g3 0 0 ?_ (by omega)⟩
  unfold h0
  rw [List.getElem?_set_self (by simp; omega)]

end Go.Proofs.Ytdlaplgofgklnaa
namespace Go.Proofs.Ytdlaplgofgklnaa
open Go.Proofs Go.Proofs.Ytdlaplgofgklnaa.L
set_option linter.unusedVariables false
set_option linter.unusedSimpArgs false

def hit (code : List GI2) (h : List Int) (t : Int) (x : Nat) : Bool := match code[x]?, h[x]? with
  | some i, some y => decide (0 ≤ y) && (nextL i (x : Int)).contains t
  | _, _ => false
def predsUp (code : List GI2) (h : List Int) (t : Int) : Nat → List Int
  | 0 => []
  | x + 1 => predsUp code h t x ++ (if hit code h t x then [(x : Int)] else [])
theorem predsUp_length (code : List GI2) (h : List Int) (t : Int) : ∀ x, (predsUp code h t x).length ≤ x
  | 0 => by simp [predsUp]
  | x + 1 => by
    have := predsUp_length code h t x
    simp only [predsUp, List.length_append]
    split <;> simp <;> omega

theorem code_ev {p : GProgram} {hs : List (List Int)} {f : Nat} {m : GFunc} (hm : p.funcs[f]? = some m) : impl_prog_code ⟨p, hs⟩ (f : Int) = some m.code := by
  unfold impl_prog_code
  simp [idx_nat, hm]
theorem reached_ev {p : GProgram} {hs : List (List Int)} {f : Nat} {h : List Int} (hf : f < p.funcs.length) (hh : hs[f]? = some h) {x : Nat} {y : Int} (hy : h[x]? = some y) : impl_prog_reached ⟨p, hs⟩ (f : Int) (x : Int) = some (decide (0 ≤ y)) := by
  have hx := (List.getElem?_eq_some_iff.1 hy).1
  unfold impl_prog_reached
  simp only [hasFunc_eq, Option.bind_some]
  have hxy : h[x] = y := (List.getElem?_eq_some_iff.1 hy).2
  simp [hf, idx_nat, hh, hy, hx, hxy]

theorem implPredsIn (g : Gprog) (f to : Int) (acc : List Int) (x : Nat) (code : List GI2) (n : Int) (hacc : acc.length ≤ 100) : ∀ (ns pre : List Int), (pre ++ ns).length < 100 →
    Ev (fun k => impl_prog_preds.l3 k (pre ++ ns) g f to acc (x : Int) code n (x : Int) ((pre ++ ns).length : Int) (pre.length : Int)) (g, f, to, (if ns.contains to then acc ++ [(x : Int)] else acc), code, n, (x : Int))
  | [], pre, hp => by
    refine Ev.succ ?_
    simp only [impl_prog_preds.l3, List.append_nil]
    exact Ev.cf (df (by omega)) Ev.pure
  | t :: ns, pre, hp => by
    have hmid := at_mid pre t ns
    have hl : (pre.length : Int) < ((pre ++ t :: ns).length : Int) := by simp; omega
    have pre' : pre ++ t :: ns = (pre ++ [t]) ++ ns := by simp
    have plen : ((pre.length + 1 : Nat) : Int) = ((pre ++ [t]).length : Int) := by simp
    refine Ev.succ ?_
    simp only [impl_prog_preds.l3]
    refine Ev.ct (dt hl) (Ev.idx hmid ?_)
    by_cases c : t = to
    · subst c
      refine Ev.ct (by simp) (Ev.gd ⟨by omega, by omega⟩ ?_)
      simp only [List.contains_cons, beq_self_eq_true, Bool.true_or, if_true]
      exact Ev.pure
    · refine Ev.cf (by simp [c]) ?_
      have := implPredsIn g f to acc x code n hacc ns (pre ++ [t]) (by rw [← pre']; exact hp)
      rw [wrap_nat (by simp at hp; omega), plen]
      have e : (t :: ns).contains to = ns.contains to := by
        rw [List.contains_cons]
        have : (to == t) = false := by simp; exact fun h => c h.symm
        rw [this, Bool.false_or]
      rw [e, pre']
      exact this

theorem implPredsLoop {p : GProgram} {hs : List (List Int)} {f : Nat} {m : GFunc} {h : List Int} (hm : p.funcs[f]? = some m) (hh : hs[f]? = some h) (hl : h.length = m.code.length) (hc : m.code.length ≤ 60) (to : Int) : ∀ (d x : Nat), m.code.length - x = d → x ≤ m.code.length →
    Ev (fun k => impl_prog_preds.l1 k ⟨p, hs⟩ (f : Int) to (predsUp m.code h to x) m.code (m.code.length : Int) (x : Int)) (predsUp m.code h to m.code.length) := by
  have hf := (List.getElem?_eq_some_iff.1 hm).1
  intro d
  induction d with
  | zero =>
    intro x hd hx
    have : x = m.code.length := by omega
    subst this
    refine Ev.succ ?_
    simp only [impl_prog_preds.l1]
    exact Ev.cf (df (by omega)) Ev.pure
  | succ d ih =>
    intro x hd hx
    obtain ⟨i, hi⟩ := list_get (show x < m.code.length by omega)
    obtain ⟨y, hy⟩ := list_get (show x < h.length by omega)
    have hlen := predsUp_length m.code h to x
    have ha2 : Ev (fun k => impl_prog_preds.a2 k (predsUp m.code h to x) ⟨p, hs⟩ (f : Int) to m.code (m.code.length : Int) (x : Int)) (⟨p, hs⟩, (f : Int), to, predsUp m.code h to (x + 1), m.code, (m.code.length : Int), (x : Int)) := by
      unfold impl_prog_preds.a2
      refine Ev.idx hi (Ev.bind (Ev.const (reached_ev hf hh hy)) ?_)
      simp only [predsUp, hit, hi, hy]
      by_cases c : 0 ≤ y
      · refine Ev.cf (by simp [c]) (Ev.bind (Ev.const (implNext i x (by omega))) ?_)
        have := implPredsIn ⟨p, hs⟩ (f : Int) to (predsUp m.code h to x) x m.code (m.code.length : Int) (by omega) (nextL i (x : Int)) [] (by have := nextL_length i x; simp; omega)
        refine Ev.bind this ?_
        simp only [c, decide_true, Bool.true_and]
        by_cases e : (nextL i (x : Int)).contains to = true
        · simp only [e, if_true]; exact Ev.pure
        · simp only [e, if_false]
          simp only [Bool.not_eq_true] at e
          simp only [e, Bool.false_eq_true, if_false, List.append_nil]
          exact Ev.pure
      · refine Ev.ct (by simp [c]) ?_
        simp only [c, decide_false, Bool.false_and, Bool.false_eq_true, if_false, List.append_nil]
        exact Ev.pure
    refine Ev.succ ?_
    simp only [impl_prog_preds.l1]
    refine Ev.ct (dt (by omega)) (Ev.bind ha2 ?_)
    rw [wrap_nat (by omega)]
    exact ih (x + 1) (by omega) (by omega)

theorem implPreds {p : GProgram} {hs : List (List Int)} {f : Nat} {m : GFunc} {h : List Int} (hm : p.funcs[f]? = some m) (hh : hs[f]? = some h) (hl : h.length = m.code.length) (hc : m.code.length ≤ 60) (to : Int) :
    Ev (fun k => impl_prog_preds k ⟨p, hs⟩ (f : Int) to) (predsUp m.code h to m.code.length) := by
  unfold impl_prog_preds
  exact Ev.bind (Ev.const (code_ev hm)) (Ev.bind (implPredsLoop hm hh hl hc to _ 0 rfl (by omega)) Ev.pure)

/-! ### The reference's table -/
theorem specNext (k : Nat) (i : GI2) (x : Nat) (hx : x < 1000000) : spec_l08Next k i (x : Int) = some (nextL i (x : Int)) := by
  unfold spec_l08Next spec_l08Next.a1 nextL
  rw [wrap_nat (by omega)]
  by_cases d1 : i.a = 30
  · simp [d1, L.gd]
  have e1 : (i.a == 30) = false := by simpa using d1
  by_cases d3 : i.a = 33
  · simp [d1, e1, d3, L.gd]
  have e3 : (i.a == 33) = false := by simpa using d3
  by_cases d2 : i.a = 31
  · simp [d1, e1, d3, e3, d2, L.gd]
  have e2 : (i.a == 31) = false := by simpa using d2
  simp [d1, e1, d3, e3, d2, e2, L.gd]
  simp [bne, e1, e3, e2]

/-- A table whose rows are the predecessors so far. -/
structure Tab (code : List GI2) (h : List Int) (x : Nat) (out : List (List Int)) : Prop where
  len : out.length = code.length
  row : ∀ t : Nat, t < code.length → out[t]? = some (predsUp code h (t : Int) x)

theorem specPredsRow {p : GProgram} (hN : Normal p) {m : GFunc} {h : List Int} {f : Nat} (hm : p.funcs[f]? = some m) (hl : h.length = m.code.length) (hc : m.code.length ≤ 60) {x : Nat} {i : GI2} {y : Int} (hi : m.code[x]? = some i) (hy : h[x]? = some y) (h0y : 0 ≤ y) (hp : Past p m.code h x i y) (hpos : ∀ n ∈ nextL i (x : Int), 0 ≤ n)
    {out : List (List Int)} (ht : Tab m.code h x out) : ∃ out', Ev (fun k => spec_l17Preds.l3 k p.funcs h out (nextL i (x : Int)) (f : Int) (x : Int) 0) (p.funcs, h, out', (f : Int), (x : Int)) ∧ Tab m.code h (x + 1) out' := by
  have hx := (List.getElem?_eq_some_iff.1 hi).1
  -- a row more
  have put : ∀ (ns : List Int) (a : Int), 0 ≤ a → a < (m.code.length : Int) → out[a.toNat]? = some (predsUp m.code h a x) := by
    intro ns a h1 h2
    have := ht.row a.toNat (by omega)
    rwa [Int.toNat_of_nonneg h1] at this
  have hlen : ∀ a, (predsUp m.code h a x).length ≤ 60 := fun a => by have := predsUp_length m.code h a x; omega
  match hn : nextL i (x : Int), nextL_length i (x : Int) with
  | [], _ =>
    refine ⟨out, ?_, ht.len, fun t htl => ?_⟩
    · refine Ev.succ ?_
      simp only [spec_l17Preds.l3]
      exact Ev.cf (by simp) Ev.pure
    · rw [ht.row t htl]
      simp [predsUp, hit, hi, hy, hn]
  | [a], _ =>
    have ha0 := hpos a (by rw [hn]; simp)
    have ha1 := (hp.2.2 a (by rw [hn]; simp)).1
    have ho := put [] a ha0 ha1
    refine ⟨out.set a.toNat (predsUp m.code h a x ++ [(x : Int)]), ?_, by simp [ht.len], fun t htl => ?_⟩
    · refine Ev.succ ?_
      simp only [spec_l17Preds.l3]
      refine Ev.ct (by simp) (Ev.bind (a := (p.funcs, h, out, [a], (f : Int), (x : Int), 0, true)) ?_ ?_)
      · unfold spec_l17Preds.a4
        exact Ev.ct (by simp) Ev.pure
      · refine Ev.ct rfl (Ev.idxI (by simp) (m := a) rfl (Ev.idxI ha0 ho (Ev.gd ⟨by have := hlen a; omega, by have := hlen a; omega⟩ ?_)))
        refine Ev.succ ?_
        simp only [spec_l17Preds.l3]
        refine Ev.cf ?_ Ev.pure
        simp [wrap64_eq]
    · by_cases e : a.toNat = t
      · subst e
        rw [List.getElem?_set_self (by rw [ht.len]; omega)]
        simp [predsUp, hit, hi, hy, hn, h0y, Int.toNat_of_nonneg ha0]
      · rw [List.getElem?_set_ne e, ht.row t htl]
        have : ¬ (t : Int) = a := by omega
        simp [predsUp, hit, hi, hy, hn, h0y, this]
  | [a, b], _ =>
    have ha0 := hpos a (by rw [hn]; simp)
    have ha1 := (hp.2.2 a (by rw [hn]; simp)).1
    have hb0 := hpos b (by rw [hn]; simp)
    have hb1 := (hp.2.2 b (by rw [hn]; simp)).1
    have ho := put [] a ha0 ha1
    have hob := put [] b hb0 hb1
    have w1 : IntKind.i64.wrap (0 + 1) = 1 := by simp [wrap64_eq]
    have w2 : IntKind.i64.wrap (1 + 1) = 2 := by simp [wrap64_eq]
    have first : ∀ o, Ev (fun k => spec_l17Preds.l3 k p.funcs h (out.set a.toNat (predsUp m.code h a x ++ [(x : Int)])) [a, b] (f : Int) (x : Int) 1) o → Ev (fun k => spec_l17Preds.l3 k p.funcs h out [a, b] (f : Int) (x : Int) 0) o := by
      intro o h'
      refine Ev.succ ?_
      simp only [spec_l17Preds.l3]
      refine Ev.ct (by simp) (Ev.bind (a := (p.funcs, h, out, [a, b], (f : Int), (x : Int), 0, true)) ?_ ?_)
      · unfold spec_l17Preds.a4
        exact Ev.ct (by simp) Ev.pure
      · refine Ev.ct rfl (Ev.idxI (by simp) (m := a) rfl (Ev.idxI ha0 ho (Ev.gd ⟨by have := hlen a; omega, by have := hlen a; omega⟩ ?_)))
        simp only [w1]
        exact h'
    have last : ∀ out', Ev (fun k => spec_l17Preds.l3 k p.funcs h out' [a, b] (f : Int) (x : Int) 2) (p.funcs, h, out', (f : Int), (x : Int)) := by
      intro out'
      refine Ev.succ ?_
      simp only [spec_l17Preds.l3]
      exact Ev.cf (by simp) Ev.pure
    have ha4 : Ev (fun k => spec_l17Preds.a4 k p.funcs h (out.set a.toNat (predsUp m.code h a x ++ [(x : Int)])) [a, b] (f : Int) (x : Int) 1) (p.funcs, h, out.set a.toNat (predsUp m.code h a x ++ [(x : Int)]), [a, b], (f : Int), (x : Int), 1, b != a) := by
      unfold spec_l17Preds.a4
      exact Ev.cf (by simp) (Ev.idxI (by simp) (m := b) rfl (Ev.idxI (by simp) (m := a) rfl Ev.pure))
    by_cases c : b = a
    · refine ⟨out.set a.toNat (predsUp m.code h a x ++ [(x : Int)]), first _ ?_, by simp [ht.len], fun t htl => ?_⟩
      · refine Ev.succ ?_
        simp only [spec_l17Preds.l3]
        refine Ev.ct (by simp) (Ev.bind ha4 (Ev.cf (by simp [c]) ?_))
        simp only [w2]
        exact last _
      · by_cases e : a.toNat = t
        · subst e
          rw [List.getElem?_set_self (by rw [ht.len]; omega)]
          simp [predsUp, hit, hi, hy, hn, h0y, Int.toNat_of_nonneg ha0]
        · rw [List.getElem?_set_ne e, ht.row t htl]
          have h1 : ¬ (t : Int) = a := by omega
          have h2 : ¬ (t : Int) = b := by omega
          simp [predsUp, hit, hi, hy, hn, h0y, h1, h2]
    · have hob' : (out.set a.toNat (predsUp m.code h a x ++ [(x : Int)]))[b.toNat]? = some (predsUp m.code h b x) := by
        rw [List.getElem?_set_ne (by omega)]; exact hob
      refine ⟨(out.set a.toNat (predsUp m.code h a x ++ [(x : Int)])).set b.toNat (predsUp m.code h b x ++ [(x : Int)]), first _ ?_, by simp [ht.len], fun t htl => ?_⟩
      · refine Ev.succ ?_
        simp only [spec_l17Preds.l3]
        refine Ev.ct (by simp) (Ev.bind ha4 (Ev.ct (by simp [c]) ?_))
        refine Ev.idxI (by simp) (m := b) rfl (Ev.idxI hb0 hob' (Ev.gd ⟨by have := hlen b; omega, by have := hlen b; omega⟩ ?_))
        simp only [w2]
        exact last _
      · by_cases e : b.toNat = t
        · subst e
          rw [List.getElem?_set_self (by simp [ht.len]; omega)]
          simp [predsUp, hit, hi, hy, hn, h0y, Int.toNat_of_nonneg hb0]
        · rw [List.getElem?_set_ne e]
          by_cases e2 : a.toNat = t
          · subst e2
            rw [List.getElem?_set_self (by rw [ht.len]; omega)]
            simp [predsUp, hit, hi, hy, hn, h0y, Int.toNat_of_nonneg ha0]
          · rw [List.getElem?_set_ne e2, ht.row t htl]
            have h1 : ¬ (t : Int) = a := by omega
            have h2 : ¬ (t : Int) = b := by omega
            simp [predsUp, hit, hi, hy, hn, h0y, h1, h2]
  | a :: b :: c :: l, hlen3 => simp at hlen3

theorem specPredsLoop {p : GProgram} (hp : RightP p) {f : Nat} {m : GFunc} {h : List Int} (hm : p.funcs[f]? = some m) (hr : RunN p m (some h)) (hl : h.length = m.code.length) : ∀ (d x : Nat) (out : List (List Int)), m.code.length - x = d → x ≤ m.code.length → Tab m.code h x out →
    ∃ out', Ev (fun k => spec_l17Preds.l1 k p.funcs h out (f : Int) (x : Int)) out' ∧ Tab m.code h m.code.length out' := by
  have hmem := List.mem_of_getElem? hm
  have hF := (hp.all m hmem).1
  have hc := hF.code
  obtain ⟨hpast, hA, -⟩ := heights_past hp hmem hr
  intro d
  induction d with
  | zero =>
    intro x out hd hx ht
    have : x = m.code.length := by omega
    subst this
    refine ⟨out, ?_, ht⟩
    refine Ev.succ ?_
    simp only [spec_l17Preds.l1]
    exact Ev.cf (df (by omega)) Ev.pure
  | succ d ih =>
    intro x out hd hx ht
    obtain ⟨i, hi⟩ := list_get (show x < m.code.length by omega)
    obtain ⟨y, hy⟩ := list_get (show x < h.length by omega)
    have ha2 : ∃ out2, Ev (fun k => spec_l17Preds.a2 k p.funcs h out (f : Int) (x : Int)) (p.funcs, h, out2, (f : Int), (x : Int)) ∧ Tab m.code h (x + 1) out2 := by
      by_cases c : y < 0
      · refine ⟨out, ?_, ht.len, fun t htl => ?_⟩
        · unfold spec_l17Preds.a2
          exact Ev.idx hy (Ev.ct (dt c) Ev.pure)
        · rw [ht.row t htl]
          simp [predsUp, hit, hi, hy, show ¬ 0 ≤ y by omega]
      · obtain ⟨out2, h1, h2⟩ := specPredsRow hp.normal hm hl hc.2 hi hy (by omega) (hpast x i y hi hy (by omega)) (fun n hn => (nextL_in hF.jumps hi n hn).1) ht
        refine ⟨out2, ?_, h2⟩
        unfold spec_l17Preds.a2
        exact Ev.idx hy (Ev.cf (df c) (Ev.idx hm (Ev.idx hi (Ev.bind (Ev.of fun k => specNext k i x (by omega)) (Ev.bind h1 Ev.pure)))))
    obtain ⟨out2, h1, h2⟩ := ha2
    obtain ⟨out', h3, h4⟩ := ih (x + 1) out2 (by omega) (by omega) h2
    refine ⟨out', ?_, h4⟩
    refine Ev.succ ?_
    simp only [spec_l17Preds.l1]
    refine Ev.ct (dt (by omega)) (Ev.bind h1 ?_)
    rw [wrap_nat (by omega)]
    exact h3

theorem specPredsTab {p : GProgram} (ha : Args64 p) (hp : RightP p) {f : Nat} {m : GFunc} {h : List Int} (hm : p.funcs[f]? = some m) (hr : RunN p m (some h)) (hl : h.length = m.code.length) :
    ∃ out, Ev (fun k => spec_l17Preds k p (f : Int)) out ∧ Tab m.code h m.code.length out := by
  have hc := (hp.all m (List.mem_of_getElem? hm)).1.code
  obtain ⟨out, h1, h2⟩ := specPredsLoop hp hm hr hl _ 0 (List.replicate h.length []) rfl (by omega) ⟨by simp [hl], fun t ht => by rw [List.getElem?_replicate, if_pos (by omega)]; rfl⟩
  refine ⟨out, ?_, h2⟩
  unfold spec_l17Preds
  refine Ev.bind (specHeightsN ha hp hm hr) (Ev.gd ⟨by simp only []; omega, by simp only []; omega, by simp only []; omega⟩ (Ev.bind h1 Ev.pure))

end Go.Proofs.Ytdlaplgofgklnaa
namespace Go.Proofs.Ytdlaplgofgklnaa
open Go.Proofs Go.Proofs.Ytdlaplgofgklnaa.L
set_option linter.unusedVariables false
set_option linter.unusedSimpArgs false

abbrev B := BitVec 64
theorem wrap_bits (b : B) : IntKind.i64.wrap ((b.toNat : Nat) : Int) = b.toInt := by
  rw [wrap64_eq, BitVec.toInt_eq_toNat_bmod]
  have := b.isLt
  simp only [Int.bmod, Nat.reducePow]
  split <;> split <;> omega
theorem ofInt_toInt (b : B) : BitVec.ofInt IntKind.i64.bits b.toInt = b := BitVec.ofInt_toInt
theorem iand_t (a b : B) : iand .i64 a.toInt b.toInt = (a &&& b).toInt := by
  unfold iand
  rw [ofInt_toInt, ofInt_toInt]
  exact wrap_bits _
theorem ior_t (a b : B) : ior .i64 a.toInt b.toInt = (a ||| b).toInt := by
  unfold ior
  rw [ofInt_toInt, ofInt_toInt]
  exact wrap_bits _
/-- The bit of a place. -/
def bitB (n : Nat) : B := BitVec.twoPow 64 n
theorem bitB_get (n m : Nat) (h : n < 64) : (bitB n).getLsbD m = decide (m = n) := by
  unfold bitB
  rw [BitVec.getLsbD_twoPow]
  by_cases e : n = m
  · subst e; simp [h]
  · have : ¬ m = n := fun h => e h.symm
    simp [e, this]
theorem ishl_t (n : Nat) (h : n < 64) : ishl .i64 1 (n : Int) = (bitB n).toInt := by
  unfold ishl
  have e : min ((n : Int).toNat) IntKind.i64.bits = n := by
    show min ((n : Int).toNat) 64 = n
    omega
  rw [e, ← wrap_bits, Int.one_mul]
  unfold bitB
  rw [BitVec.toNat_twoPow, Nat.mod_eq_of_lt (Nat.pow_lt_pow_right (by omega) h)]
  simp
theorem bit_ev (n : Nat) (h : n < 64) : spec_l08Bit (n : Int) = some (bitB n).toInt := by
  unfold spec_l08Bit
  have : IntKind.u64.wrap (n : Int) = (n : Int) := by
    show (n : Int) % 18446744073709551616 = n
    omega
  rw [this, ishl_t n h]
  unfold L.gd
  rw [if_pos (by omega)]
theorem test_t (b : B) (n : Nat) (h : n < 64) : iand .i64 (ishr .i64 b.toInt (n : Int)) 1 = if b.getLsbD n then 1 else 0 := by
  have e : min ((n : Int).toNat) IntKind.i64.bits = n := by
    show min ((n : Int).toNat) 64 = n
    omega
  have e1 : ishr .i64 b.toInt (n : Int) = (b.sshiftRight n).toInt := by
    unfold ishr
    rw [e, BitVec.toInt_sshiftRight]
    rw [Int.shiftRight_eq_div_pow]
    rw [Int.fdiv_eq_ediv_of_nonneg _ (by exact_mod_cast Nat.zero_le (2 ^ n))]
    norm_cast
  have e2 : (1 : Int) = (1#64 : B).toInt := by decide
  rw [e1]
  conv => lhs; rw [e2]
  rw [iand_t]
  have e3 : (b.sshiftRight n &&& 1#64) = if b.getLsbD n then 1#64 else 0#64 := by
    apply BitVec.eq_of_getLsbD_eq
    intro i hi
    rw [BitVec.getLsbD_and, BitVec.getLsbD_sshiftRight]
    by_cases z : i = 0
    · subst z
      cases hb : b.getLsbD n <;> simp [hb, h]
    · have : (1#64 : B).getLsbD i = false := by
        rw [BitVec.getLsbD_one]
        simp [z]
      rw [this, Bool.and_false]
      cases b.getLsbD n with
      | false => simp
      | true => simpa using this.symm
  rw [e3]
  split <;> decide

/-! ### Sweeps -/
abbrev tI (ds : List B) : List Int := ds.map BitVec.toInt
theorem tI_get {ds : List B} {x : Nat} {v : B} (h : ds[x]? = some v) : (tI ds)[x]? = some v.toInt := by simp [tI, h]
theorem tI_set (ds : List B) (x : Nat) (v : B) : (tI ds).set x v.toInt = tI (ds.set x v) := by simp [tI, List.map_set]
theorem toInt_ne (a b : B) : (a.toInt != b.toInt) = (a != b) := by
  by_cases h : a = b
  · subst h; simp
  · have : ¬ a.toInt = b.toInt := fun e => h (BitVec.eq_of_toInt_eq e)
    rw [bne_iff_ne.2 h, bne_iff_ne.2 this]
def at0 (ds : List B) (i : Nat) : B := (ds[i]?).getD 0#64
theorem at0_of {ds : List B} {i : Nat} {v : B} (h : ds[i]? = some v) : at0 ds i = v := by simp [at0, h]
def meet (ds : List B) : List Int → B → B
  | [], m => m
  | p :: ps, m => meet ds ps (m &&& at0 ds p.toNat)
def newB (pr : Nat → List Int) (all : B) (ds : List B) (i : Nat) : B := meet ds (pr i) all ||| bitB i
def sweep (pr : Nat → List Int) (all : B) (live : Nat → Bool) : Nat → Nat → List B → Bool → List B × Bool
  | 0, _, ds, c => (ds, c)
  | d + 1, i, ds, c => if live i = true then sweep pr all live d (i + 1) (ds.set i (newB pr all ds i)) (c || newB pr all ds i != at0 ds i) else sweep pr all live d (i + 1) ds c
inductive Rounds (pr : Nat → List Int) (all : B) (live : Nat → Bool) (len : Nat) : List B → List B → Prop
  | stop {ds ds' : List B} (h : sweep pr all live (len - 1) 1 ds false = (ds', false)) : Rounds pr all live len ds ds'
  | go {ds ds' out : List B} (h : sweep pr all live (len - 1) 1 ds false = (ds', true)) (h2 : Rounds pr all live len ds' out) : Rounds pr all live len ds out

def Sub (a b : B) : Prop := ∀ n, a.getLsbD n = true → b.getLsbD n = true
theorem Sub.refl (a : B) : Sub a a := fun _ h => h
theorem Sub.and {a b : B} (h : Sub a b) : a &&& b = a := by
  apply BitVec.eq_of_getLsbD_eq
  intro n _
  rw [BitVec.getLsbD_and]
  cases e : a.getLsbD n with
  | false => rfl
  | true => rw [h n e]; rfl
theorem Sub.le {a b : B} (h : Sub a b) : a.toNat ≤ b.toNat := by
  rw [← h.and, BitVec.toNat_and]
  exact Nat.and_le_right
theorem meet_sub {ds ds' : List B} (h : ∀ j, Sub (at0 ds' j) (at0 ds j)) : ∀ (ps : List Int) (m' m : B), Sub m' m → Sub (meet ds' ps m') (meet ds ps m)
  | [], _, _, hm => hm
  | p :: ps, m', m, hm => by
    refine meet_sub h ps _ _ fun n hn => ?_
    rw [BitVec.getLsbD_and, Bool.and_eq_true] at hn ⊢
    exact ⟨hm n hn.1, h _ n hn.2⟩
theorem meet_into (ds : List B) : ∀ (ps : List Int) (m : B), Sub (meet ds ps m) m
  | [], m => Sub.refl m
  | p :: ps, m => fun n hn => by
    have := meet_into ds ps _ n hn
    rw [BitVec.getLsbD_and, Bool.and_eq_true] at this
    exact this.1
theorem newB_sub {ds ds' : List B} (h : ∀ j, Sub (at0 ds' j) (at0 ds j)) (pr : Nat → List Int) (all : B) (i : Nat) : Sub (newB pr all ds' i) (newB pr all ds i) := by
  intro n hn
  unfold newB at hn ⊢
  rw [BitVec.getLsbD_or, Bool.or_eq_true] at hn ⊢
  rcases hn with hn | hn
  · exact .inl (meet_sub h _ _ _ (Sub.refl _) n hn)
  · exact .inr hn

structure SInv (pr : Nat → List Int) (all : B) (live : Nat → Bool) (len : Nat) (ds : List B) : Prop where
  size : ds.length = len
  below : ∀ i, 1 ≤ i → i < len → live i = true → Sub (newB pr all ds i) (at0 ds i)
  own : ∀ i, i < len → live i = true → (at0 ds i).getLsbD i = true
def tot : List B → Nat
  | [] => 0
  | v :: ds => v.toNat + tot ds
theorem tot_set : ∀ (ds : List B) (i : Nat) (v : B), i < ds.length → tot (ds.set i v) + (at0 ds i).toNat = tot ds + v.toNat
  | [], i, v, h => by simp at h
  | a :: ds, 0, v, h => by simp [tot, at0]; omega
  | a :: ds, i + 1, v, h => by
    have := tot_set ds i v (by simpa using h)
    simp only [List.set_cons_succ, tot, at0, List.getElem?_cons_succ] at this ⊢
    omega
theorem at0_set {ds : List B} {i : Nat} (v : B) (h : i < ds.length) (j : Nat) : at0 (ds.set i v) j = if i = j then v else at0 ds j := by
  unfold at0
  by_cases e : i = j
  · subst e; rw [List.getElem?_set_self h]; simp
  · rw [List.getElem?_set_ne e]; simp [e]
theorem SInv.step {pr : Nat → List Int} {all : B} {live : Nat → Bool} {len : Nat} {ds : List B} (h : SInv pr all live len ds) (hl : len ≤ 64) {i : Nat} (h1 : 1 ≤ i) (h2 : i < len) (h3 : live i = true) :
    SInv pr all live len (ds.set i (newB pr all ds i)) ∧ tot (ds.set i (newB pr all ds i)) ≤ tot ds ∧ (newB pr all ds i ≠ at0 ds i → tot (ds.set i (newB pr all ds i)) < tot ds) := by
  have hi : i < ds.length := by rw [h.size]; exact h2
  have hs := h.below i h1 h2 h3
  have ht := tot_set ds i (newB pr all ds i) hi
  have hle := hs.le
  have hdown : ∀ j, Sub (at0 (ds.set i (newB pr all ds i)) j) (at0 ds j) := by
    intro j
    rw [at0_set _ hi]
    split
    · rename_i e; subst e; exact hs
    · exact Sub.refl _
  refine ⟨⟨by simp [h.size], fun j j1 j2 j3 => ?_, fun j j2 j3 => ?_⟩, by omega, fun hne => ?_⟩
  · have := newB_sub hdown pr all j
    rw [at0_set _ hi]
    split
    · rename_i e; subst e; exact this
    · exact fun n hn => h.below j j1 j2 j3 n (this n hn)
  · rw [at0_set _ hi]
    split
    · rename_i e
      subst e
      unfold newB
      rw [BitVec.getLsbD_or, bitB_get _ _ (by omega)]
      simp
    · exact h.own j j2 j3
  · have : (newB pr all ds i).toNat ≠ (at0 ds i).toNat := fun e => hne (BitVec.eq_of_toNat_eq e)
    omega
theorem sweep_inv {pr : Nat → List Int} {all : B} {live : Nat → Bool} {len : Nat} (hl : len ≤ 64) : ∀ (d i : Nat) (ds : List B) (c : Bool), SInv pr all live len ds → 1 ≤ i → i + d ≤ len →
    SInv pr all live len (sweep pr all live d i ds c).1 ∧ tot (sweep pr all live d i ds c).1 ≤ tot ds ∧ ((sweep pr all live d i ds c).2 = true → c = true ∨ tot (sweep pr all live d i ds c).1 < tot ds)
  | 0, i, ds, c, h, h1, h2 => ⟨h, Nat.le_refl _, fun e => .inl e⟩
  | d + 1, i, ds, c, h, h1, h2 => by
    unfold sweep
    split
    · rename_i hv
      obtain ⟨g1, g2, g3⟩ := h.step hl h1 (by omega) hv
      obtain ⟨k1, k2, k3⟩ := sweep_inv hl d (i + 1) _ (c || newB pr all ds i != at0 ds i) g1 (by omega) (by omega)
      refine ⟨k1, by omega, fun e => ?_⟩
      rcases k3 e with k | k
      · rw [Bool.or_eq_true] at k
        rcases k with k | k
        · exact .inl k
        · have := g3 (bne_iff_ne.1 k)
          exact .inr (by omega)
      · exact .inr (by omega)
    · exact sweep_inv hl d (i + 1) ds c h (by omega) (by omega)
theorem rounds_ex {pr : Nat → List Int} {all : B} {live : Nat → Bool} {len : Nat} (hl : len ≤ 64) (h1 : 1 ≤ len) : ∀ (n : Nat) (ds : List B), tot ds = n → SInv pr all live len ds → ∃ out, Rounds pr all live len ds out ∧ SInv pr all live len out := by
  intro n
  induction n using Nat.strongRecOn with
  | ind n ih =>
    intro ds hn h
    obtain ⟨k1, k2, k3⟩ := sweep_inv hl (len - 1) 1 ds false h (by omega) (by omega)
    cases e : sweep pr all live (len - 1) 1 ds false with
    | mk ds' c =>
      rw [e] at k1 k2 k3
      cases c with
      | false => exact ⟨ds', .stop e, k1⟩
      | true =>
        have : tot ds' < tot ds := by
          rcases k3 rfl with k | k
          · cases k
          · exact k
        obtain ⟨out, o1, o2⟩ := ih (tot ds') (by omega) ds' rfl k1
        exact ⟨out, .go e o1, o2⟩

end Go.Proofs.Ytdlaplgofgklnaa
namespace Go.Proofs.Ytdlaplgofgklnaa
open Go.Proofs Go.Proofs.Ytdlaplgofgklnaa.L
set_option linter.unusedVariables false
set_option linter.unusedSimpArgs false

theorem predsUp_mem {code : List GI2} {h : List Int} {t : Int} : ∀ {x : Nat} {p : Int}, p ∈ predsUp code h t x → ∃ n : Nat, n < x ∧ p = (n : Int) ∧ hit code h t n = true
  | 0, p, hp => by simp [predsUp] at hp
  | x + 1, p, hp => by
    simp only [predsUp, List.mem_append] at hp
    rcases hp with hp | hp
    · obtain ⟨n, h1, h2⟩ := predsUp_mem hp
      exact ⟨n, by omega, h2⟩
    · split at hp
      · rename_i hh
        rw [List.mem_singleton] at hp
        exact ⟨x, by omega, hp, hh⟩
      · cases hp

/-- Has a place a height? -/
def live (h : List Int) (i : Nat) : Bool := match h[i]? with
  | some y => decide (0 ≤ y)
  | none => false
theorem live_of {h : List Int} {i : Nat} {y : Int} (e : h[i]? = some y) : live h i = decide (0 ≤ y) := by simp [live, e]
def allUp (h : List Int) : Nat → B
  | 0 => 0#64
  | x + 1 => if live h x = true then allUp h x ||| bitB x else allUp h x
theorem allUp_get (h : List Int) : ∀ (x n : Nat), x ≤ 64 → (allUp h x).getLsbD n = (decide (n < x) && live h n)
  | 0, n, hx => by simp [allUp]
  | x + 1, n, hx => by
    have ih := allUp_get h x n (by omega)
    unfold allUp
    split
    · rename_i hl
      rw [BitVec.getLsbD_or, ih, bitB_get _ _ (by omega)]
      by_cases e : n = x
      · subst e; simp [hl]
      · have : decide (n < x + 1) = decide (n < x) := by rw [decide_eq_decide]; omega
        simp [e, this]
    · rename_i hl
      rw [ih]
      by_cases e : n = x
      · subst e; simp [hl]
      · have : decide (n < x + 1) = decide (n < x) := by rw [decide_eq_decide]; omega
        rw [this]
def startUp (h : List Int) (all : B) (len : Nat) : Nat → List B
  | 0 => List.replicate len 0#64
  | x + 1 => if live h x = true then (startUp h all len x).set x all else startUp h all len x
theorem startUp_len (h : List Int) (all : B) (len : Nat) : ∀ x, (startUp h all len x).length = len
  | 0 => by simp [startUp]
  | x + 1 => by unfold startUp; split <;> simp [startUp_len h all len x]
theorem startUp_at (h : List Int) (all : B) (len : Nat) : ∀ (x j : Nat), x ≤ len → j < x → at0 (startUp h all len x) j = if live h j = true then all else 0#64
  | 0, j, _, hj => by omega
  | x + 1, j, hx, hj => by
    have later : ∀ (x j : Nat), x ≤ j → j < len → at0 (startUp h all len x) j = 0#64 := by
      intro x
      induction x with
      | zero => intro j _ hj; simp [startUp, at0, List.getElem?_replicate, hj]
      | succ x ih =>
        intro j h1 h2
        unfold startUp
        split
        · rw [at0_set _ (by rw [startUp_len]; omega), if_neg (by omega)]
          exact ih j (by omega) h2
        · exact ih j (by omega) h2
    unfold startUp
    by_cases e : j = x
    · subst e
      split
      · rename_i hl
        rw [at0_set _ (by rw [startUp_len]; omega), if_pos rfl]
      · rename_i hl
        exact later j j (by omega) (by omega)
    · have ih := startUp_at h all len x j (by omega) (by omega)
      split
      · rw [at0_set _ (by rw [startUp_len]; omega), if_neg (by omega)]
        exact ih
      · exact ih

/-- What is known of a function here. -/
structure Fn (p : GProgram) (f : Nat) (m : GFunc) (h : List Int) : Prop where
  at_ : p.funcs[f]? = some m
  size : h.length = m.code.length
  code : 1 ≤ m.code.length ∧ m.code.length ≤ 60
abbrev prs (m : GFunc) (h : List Int) : Nat → List Int := fun i => predsUp m.code h (i : Int) m.code.length
abbrev allB (m : GFunc) (h : List Int) : B := allUp h m.code.length
abbrev start (m : GFunc) (h : List Int) : List B := (startUp h (allB m h) m.code.length m.code.length).set 0 1#64
theorem start_inv {p : GProgram} {f : Nat} {m : GFunc} {h : List Int} (hF : Fn p f m h) : SInv (prs m h) (allB m h) (live h) m.code.length (start m h) := by
  have hc := hF.code
  have at_ : ∀ i, i < m.code.length → at0 (start m h) i = if 0 = i then 1#64 else if live h i = true then allB m h else 0#64 := by
    intro i hi
    rw [at0_set _ (by rw [startUp_len]; omega)]
    split
    · rfl
    · exact startUp_at _ _ _ _ _ (Nat.le_refl _) hi
  refine ⟨by simp [startUp_len], fun i h1 h2 h3 => ?_, fun i h2 h3 => ?_⟩
  · rw [at_ i h2, if_neg (by omega), if_pos h3]
    intro n hn
    unfold newB at hn
    rw [BitVec.getLsbD_or, Bool.or_eq_true] at hn
    rcases hn with hn | hn
    · exact meet_into _ _ _ n hn
    · rw [bitB_get _ _ (by omega)] at hn
      have : n = i := by simpa using hn
      subst this
      rw [allUp_get _ _ _ (by omega), h3]
      simp [h2]
  · rw [at_ i h2]
    by_cases e : 0 = i
    · subst e; simp
    · rw [if_neg e, if_pos h3, allUp_get _ _ _ (by omega), h3]
      simp [h2]

/-! ### The reference -/
theorem specAll {m : GFunc} {h : List Int} (hl : h.length = m.code.length) (hc : m.code.length ≤ 60) (out : List (List Int)) : ∀ (d x : Nat), m.code.length - x = d → x ≤ m.code.length →
    Ev (fun k => spec_l17Doms.l1 k h out (allUp h x).toInt (x : Int)) (h, out, (allB m h).toInt) := by
  intro d
  induction d with
  | zero =>
    intro x hd hx
    have : x = m.code.length := by omega
    subst this
    refine Ev.succ ?_
    simp only [spec_l17Doms.l1]
    exact Ev.cf (df (by omega)) Ev.pure
  | succ d ih =>
    intro x hd hx
    obtain ⟨y, hy⟩ := list_get (show x < h.length by omega)
    have := ih (x + 1) (by omega) (by omega)
    refine Ev.succ ?_
    simp only [spec_l17Doms.l1]
    refine Ev.ct (dt (by omega)) (Ev.idx hy ?_)
    rw [wrap_nat (by omega)]
    by_cases c : 0 ≤ y
    · refine Ev.ct (dt c) (Ev.bind (Ev.const (bit_ev x (by omega))) ?_)
      rw [ior_t]
      simpa only [allUp, live_of hy, dt c, if_true] using this
    · refine Ev.cf (df c) ?_
      simpa only [allUp, live_of hy, df c, Bool.false_eq_true, if_false] using this

theorem specStart {m : GFunc} {h : List Int} (hl : h.length = m.code.length) (hc : m.code.length ≤ 60) (out : List (List Int)) (all : B) : ∀ (d x : Nat), m.code.length - x = d → x ≤ m.code.length →
    Ev (fun k => spec_l17Doms.l2 k h out (tI (startUp h all m.code.length x)) all.toInt (x : Int)) (h, out, tI (startUp h all m.code.length m.code.length), all.toInt) := by
  intro d
  induction d with
  | zero =>
    intro x hd hx
    have : x = m.code.length := by omega
    subst this
    refine Ev.succ ?_
    simp only [spec_l17Doms.l2]
    exact Ev.cf (df (by omega)) Ev.pure
  | succ d ih =>
    intro x hd hx
    obtain ⟨y, hy⟩ := list_get (show x < h.length by omega)
    obtain ⟨v, hv⟩ := list_get (show x < (startUp h all m.code.length x).length by rw [startUp_len]; omega)
    have := ih (x + 1) (by omega) (by omega)
    refine Ev.succ ?_
    simp only [spec_l17Doms.l2]
    refine Ev.ct (dt (by omega)) (Ev.idx hy ?_)
    rw [wrap_nat (by omega)]
    by_cases c : 0 ≤ y
    · refine Ev.ct (dt c) (Ev.idx (tI_get hv) ?_)
      rw [Int.toNat_natCast, tI_set]
      simpa only [startUp, live_of hy, dt c, if_true] using this
    · refine Ev.cf (df c) ?_
      simpa only [startUp, live_of hy, df c, Bool.false_eq_true, if_false] using this

theorem specMeet {h : List Int} {out : List (List Int)} {ds : List B} (all : Int) (c : Bool) (i : Nat) : ∀ (ns pre : List Int) (m : B), (pre ++ ns).length < 100 → out[i]? = some (pre ++ ns) → (∀ p ∈ ns, ∃ n : Nat, p = (n : Int) ∧ n < ds.length) →
    Ev (fun k => spec_l17Doms.l6 k h out (tI ds) all c (i : Int) m.toInt (pre.length : Int)) (h, out, tI ds, all, c, (i : Int), (meet ds ns m).toInt)
  | [], pre, m, hp, ho, hn => by
    refine Ev.succ ?_
    simp only [spec_l17Doms.l6]
    refine Ev.idx ho (Ev.cf (df (by simp)) ?_)
    rw [Int.toNat_natCast, set_same ho]
    exact Ev.pure
  | t :: ns, pre, m, hp, ho, hn => by
    have hmid := at_mid pre t ns
    have hl : (pre.length : Int) < ((pre ++ t :: ns).length : Int) := by simp; omega
    have pre' : pre ++ t :: ns = (pre ++ [t]) ++ ns := by simp
    have plen : ((pre.length + 1 : Nat) : Int) = ((pre ++ [t]).length : Int) := by simp
    obtain ⟨n, rfl, hlt⟩ := hn t (by simp)
    obtain ⟨v, hv⟩ := list_get hlt
    have := specMeet (h := h) all c i ns (pre ++ [(n : Int)]) (m &&& v) (by rw [← pre']; exact hp) (by rw [← pre']; exact ho) (fun p hp => hn p (List.mem_cons_of_mem _ hp))
    refine Ev.succ ?_
    simp only [spec_l17Doms.l6]
    refine Ev.idx ho (Ev.ct (dt hl) (Ev.idx hmid (Ev.idx (tI_get hv) ?_)))
    rw [wrap_nat (by simp at hp; omega), plen, Int.toNat_natCast, set_same ho, iand_t]
    simpa only [meet, Int.toNat_natCast, at0_of hv] using this

theorem specSweep {m : GFunc} {h : List Int} (hl : h.length = m.code.length) (hc : m.code.length ≤ 60) {out : List (List Int)} (ht : Tab m.code h m.code.length out) : ∀ (d i : Nat) (ds : List B) (c : Bool), m.code.length - i = d → 1 ≤ i → i ≤ m.code.length → ds.length = m.code.length →
    Ev (fun k => spec_l17Doms.l4 k h out (tI ds) (allB m h).toInt c (i : Int)) (h, out, tI (sweep (prs m h) (allB m h) (live h) d i ds c).1, (allB m h).toInt, (sweep (prs m h) (allB m h) (live h) d i ds c).2)
  | 0, i, ds, c, hd, h1, h2, h3 => by
    refine Ev.succ ?_
    simp only [spec_l17Doms.l4]
    exact Ev.cf (df (by omega)) Ev.pure
  | d + 1, i, ds, c, hd, h1, h2, h3 => by
    obtain ⟨y, hy⟩ := list_get (show i < h.length by omega)
    obtain ⟨v, hv⟩ := list_get (show i < ds.length by omega)
    refine Ev.succ ?_
    simp only [spec_l17Doms.l4]
    by_cases c0 : 0 ≤ y
    · have hlv : live h i = true := by rw [live_of hy]; exact dt c0
      have hro := ht.row i (by omega)
      have hm6 := specMeet (h := h) (ds := ds) (allB m h).toInt c i (prs m h i) [] (allB m h) (by have := predsUp_length m.code h (i : Int) m.code.length; simp [prs]; omega) hro (fun p hp => by
        obtain ⟨n, g1, g2, -⟩ := predsUp_mem hp
        exact ⟨n, g2, by omega⟩)
      have ha5 : Ev (fun k => spec_l17Doms.a5 k h out (tI ds) (allB m h).toInt c (i : Int)) (h, out, tI (ds.set i (newB (prs m h) (allB m h) ds i)), (allB m h).toInt, (c || newB (prs m h) (allB m h) ds i != at0 ds i), (i : Int)) := by
        unfold spec_l17Doms.a5
        refine Ev.idx hy (Ev.cf (df (by omega)) (Ev.bind hm6 (Ev.bind (Ev.const (bit_ev i (by omega))) ?_)))
        simp only []
        rw [ior_t, Int.toNat_natCast, tI_set]
        cases c with
        | true => exact Ev.ct rfl (Ev.idx (tI_get hv) Ev.pure)
        | false =>
          refine Ev.cf rfl (Ev.idx (tI_get hv) ?_)
          rw [toInt_ne, at0_of hv, Bool.false_or]
          exact Ev.pure
      have := specSweep hl hc ht d (i + 1) (ds.set i (newB (prs m h) (allB m h) ds i)) (c || newB (prs m h) (allB m h) ds i != at0 ds i) (by omega) (by omega) (by omega) (by simp [h3])
      refine Ev.ct (dt (by omega)) (Ev.bind ha5 ?_)
      simp only []
      rw [wrap_nat (by omega)]
      simpa only [sweep, hlv, if_true] using this
    · have hlv : live h i = false := by rw [live_of hy]; exact df c0
      have ha5 : Ev (fun k => spec_l17Doms.a5 k h out (tI ds) (allB m h).toInt c (i : Int)) (h, out, tI ds, (allB m h).toInt, c, (i : Int)) := by
        unfold spec_l17Doms.a5
        exact Ev.idx hy (Ev.ct (dt (by omega)) Ev.pure)
      have := specSweep hl hc ht d (i + 1) ds c (by omega) (by omega) (by omega) h3
      refine Ev.ct (dt (by omega)) (Ev.bind ha5 ?_)
      simp only []
      rw [wrap_nat (by omega)]
      simpa only [sweep, hlv, Bool.false_eq_true, if_false] using this

theorem sweep_len (pr : Nat → List Int) (all : B) (lv : Nat → Bool) : ∀ (d i : Nat) (ds : List B) (c : Bool), (sweep pr all lv d i ds c).1.length = ds.length
  | 0, i, ds, c => rfl
  | d + 1, i, ds, c => by
    unfold sweep
    split
    · rw [sweep_len]; simp
    · rw [sweep_len]

theorem specRounds {m : GFunc} {h : List Int} (hl : h.length = m.code.length) (hc : 1 ≤ m.code.length ∧ m.code.length ≤ 60) {out : List (List Int)} (ht : Tab m.code h m.code.length out) {ds o : List B} (hr : Rounds (prs m h) (allB m h) (live h) m.code.length ds o) : ds.length = m.code.length →
    Ev (fun k => spec_l17Doms.l3 k h out (tI ds) (allB m h).toInt true) (tI o) := by
  induction hr with
  | @stop ds ds' e =>
    intro h3
    have := specSweep hl hc.2 ht (m.code.length - 1) 1 ds false rfl (by omega) (by omega) h3
    rw [e] at this
    refine Ev.succ ?_
    simp only [spec_l17Doms.l3]
    refine Ev.ct rfl (Ev.bind this ?_)
    refine Ev.succ ?_
    simp only [spec_l17Doms.l3]
    exact Ev.cf rfl Ev.pure
  | @go ds ds' o e h2 ih =>
    intro h3
    have := specSweep hl hc.2 ht (m.code.length - 1) 1 ds false rfl (by omega) (by omega) h3
    have hlen := sweep_len (prs m h) (allB m h) (live h) (m.code.length - 1) 1 ds false
    rw [e] at this hlen
    refine Ev.succ ?_
    simp only [spec_l17Doms.l3]
    exact Ev.ct rfl (Ev.bind this (ih (by simpa [h3] using hlen)))

/-! ### The program -/
theorem implAll {p : GProgram} {hs : List (List Int)} {f : Nat} {m : GFunc} {h : List Int} (hF : Fn p f m h) (hh : hs[f]? = some h) : ∀ (d x : Nat), m.code.length - x = d → x ≤ m.code.length →
    Ev (fun k => impl_prog_doms.l1 k ⟨p, hs⟩ (f : Int) (allUp h x).toInt (m.code.length : Int) (x : Int)) (⟨p, hs⟩, (f : Int), (allB m h).toInt) := by
  have hf := (List.getElem?_eq_some_iff.1 hF.at_).1
  have hl := hF.size
  have hc := hF.code
  intro d
  induction d with
  | zero =>
    intro x hd hx
    have : x = m.code.length := by omega
    subst this
    refine Ev.succ ?_
    simp only [impl_prog_doms.l1]
    exact Ev.cf (df (by omega)) Ev.pure
  | succ d ih =>
    intro x hd hx
    obtain ⟨y, hy⟩ := list_get (show x < h.length by omega)
    have := ih (x + 1) (by omega) (by omega)
    refine Ev.succ ?_
    simp only [impl_prog_doms.l1]
    refine Ev.ct (dt (by omega)) (Ev.bind (Ev.const (reached_ev hf hh hy)) ?_)
    rw [wrap_nat (by omega)]
    by_cases c : 0 ≤ y
    · refine Ev.ct (dt c) (Ev.gd (by omega) ?_)
      rw [ishl_t x (by omega), ior_t]
      simpa only [allUp, live_of hy, dt c, if_true] using this
    · refine Ev.cf (df c) ?_
      simpa only [allUp, live_of hy, df c, Bool.false_eq_true, if_false] using this

theorem all_test {m : GFunc} {h : List Int} (hc : m.code.length ≤ 60) {x : Nat} (hx : x < m.code.length) : iand .i64 (ishr .i64 (allB m h).toInt (x : Int)) 1 = if live h x = true then 1 else 0 := by
  rw [test_t _ _ (by omega), allUp_get _ _ _ (by omega)]
  simp [hx]

theorem implStart {m : GFunc} {h : List Int} (g : Gprog) (f : Int) (hc : m.code.length ≤ 60) : ∀ (d x : Nat), m.code.length - x = d → x ≤ m.code.length →
    Ev (fun k => impl_prog_doms.l2 k (tI (startUp h (allB m h) m.code.length x)) g f (allB m h).toInt (m.code.length : Int) (x : Int)) (tI (startUp h (allB m h) m.code.length m.code.length), g, f, (allB m h).toInt) := by
  intro d
  induction d with
  | zero =>
    intro x hd hx
    have : x = m.code.length := by omega
    subst this
    refine Ev.succ ?_
    simp only [impl_prog_doms.l2]
    exact Ev.cf (df (by omega)) Ev.pure
  | succ d ih =>
    intro x hd hx
    obtain ⟨v, hv⟩ := list_get (show x < (startUp h (allB m h) m.code.length x).length by rw [startUp_len]; omega)
    have := ih (x + 1) (by omega) (by omega)
    refine Ev.succ ?_
    simp only [impl_prog_doms.l2]
    refine Ev.ct (dt (by omega)) (Ev.gd (by omega) ?_)
    rw [wrap_nat (by omega), all_test hc (by omega)]
    cases c : live h x with
    | true =>
      refine Ev.ct (by simp) (Ev.idx (tI_get hv) ?_)
      rw [Int.toNat_natCast, tI_set]
      simpa only [startUp, c, if_true] using this
    | false =>
      refine Ev.cf (by simp) ?_
      simpa only [startUp, c, Bool.false_eq_true, if_false] using this

theorem implMeet {ds : List B} (g : Gprog) (f all : Int) (c : Bool) (i : Int) : ∀ (ns pre : List Int) (m : B), (pre ++ ns).length < 100 → (∀ p ∈ ns, ∃ n : Nat, p = (n : Int) ∧ n < ds.length) →
    Ev (fun k => impl_prog_doms.l6 k (tI ds) (pre ++ ns) g f all c i m.toInt ((pre ++ ns).length : Int) (pre.length : Int)) (tI ds, g, f, all, c, i, (meet ds ns m).toInt)
  | [], pre, m, hp, hn => by
    refine Ev.succ ?_
    simp only [impl_prog_doms.l6]
    exact Ev.cf (df (by simp)) Ev.pure
  | t :: ns, pre, m, hp, hn => by
    have hmid := at_mid pre t ns
    have hl : (pre.length : Int) < ((pre ++ t :: ns).length : Int) := by simp; omega
    have pre' : pre ++ t :: ns = (pre ++ [t]) ++ ns := by simp
    have plen : ((pre.length + 1 : Nat) : Int) = ((pre ++ [t]).length : Int) := by simp
    obtain ⟨n, rfl, hlt⟩ := hn t (by simp)
    obtain ⟨v, hv⟩ := list_get hlt
    have := implMeet g f all c i ns (pre ++ [(n : Int)]) (m &&& v) (by rw [← pre']; exact hp) (fun p hp => hn p (List.mem_cons_of_mem _ hp))
    refine Ev.succ ?_
    simp only [impl_prog_doms.l6]
    refine Ev.ct (dt hl) (Ev.idx hmid (Ev.idx (tI_get hv) ?_))
    rw [wrap_nat (by simp at hp; omega), plen, iand_t, pre']
    simpa only [meet, Int.toNat_natCast, at0_of hv] using this

theorem implSweep {p : GProgram} {hs : List (List Int)} {f : Nat} {m : GFunc} {h : List Int} (hF : Fn p f m h) (hh : hs[f]? = some h) : ∀ (d i : Nat) (ds : List B) (c : Bool), m.code.length - i = d → 1 ≤ i → i ≤ m.code.length → ds.length = m.code.length →
    Ev (fun k => impl_prog_doms.l4 k (tI ds) ⟨p, hs⟩ (f : Int) (allB m h).toInt c (i : Int)) (tI (sweep (prs m h) (allB m h) (live h) d i ds c).1, ⟨p, hs⟩, (f : Int), (allB m h).toInt, (sweep (prs m h) (allB m h) (live h) d i ds c).2)
  | 0, i, ds, c, hd, h1, h2, h3 => by
    refine Ev.succ ?_
    simp only [impl_prog_doms.l4]
    exact Ev.cf (df (by simp [h3]; omega)) Ev.pure
  | d + 1, i, ds, c, hd, h1, h2, h3 => by
    have hc := hF.code
    obtain ⟨v, hv⟩ := list_get (show i < ds.length by omega)
    refine Ev.succ ?_
    simp only [impl_prog_doms.l4]
    cases hlv : live h i with
    | true =>
      have hm6 := implMeet (ds := ds) ⟨p, hs⟩ (f : Int) (allB m h).toInt c (i : Int) (prs m h i) [] (allB m h) (by have := predsUp_length m.code h (i : Int) m.code.length; simp [prs]; omega) (fun p hp => by
        obtain ⟨n, g1, g2, -⟩ := predsUp_mem hp
        exact ⟨n, g2, by omega⟩)
      have ha5 : Ev (fun k => impl_prog_doms.a5 k (tI ds) ⟨p, hs⟩ (f : Int) (allB m h).toInt c (i : Int)) (tI (ds.set i (newB (prs m h) (allB m h) ds i)), ⟨p, hs⟩, (f : Int), (allB m h).toInt, (c || newB (prs m h) (allB m h) ds i != at0 ds i), (i : Int)) := by
        unfold impl_prog_doms.a5
        refine Ev.gd (by omega) ?_
        rw [all_test hc.2 (by omega), hlv]
        refine Ev.cf (by simp) (Ev.bind (implPreds hF.at_ hh hF.size hc.2 (i : Int)) (Ev.bind hm6 (Ev.gd (by simp only []; omega) ?_)))
        simp only []
        rw [ishl_t i (by omega), ior_t, Int.toNat_natCast, tI_set]
        cases c with
        | true => exact Ev.ct rfl (Ev.idx (tI_get hv) Ev.pure)
        | false =>
          refine Ev.cf rfl (Ev.idx (tI_get hv) ?_)
          rw [toInt_ne, at0_of hv, Bool.false_or]
          exact Ev.pure
      have := implSweep hF hh d (i + 1) (ds.set i (newB (prs m h) (allB m h) ds i)) (c || newB (prs m h) (allB m h) ds i != at0 ds i) (by omega) (by omega) (by omega) (by simp [h3])
      refine Ev.ct (dt (by simp [h3]; omega)) (Ev.bind ha5 ?_)
      simp only []
      rw [wrap_nat (by omega)]
      simpa only [sweep, hlv, if_true] using this
    | false =>
      have ha5 : Ev (fun k => impl_prog_doms.a5 k (tI ds) ⟨p, hs⟩ (f : Int) (allB m h).toInt c (i : Int)) (tI ds, ⟨p, hs⟩, (f : Int), (allB m h).toInt, c, (i : Int)) := by
        unfold impl_prog_doms.a5
        refine Ev.gd (by omega) ?_
        rw [all_test hc.2 (by omega), hlv]
        exact Ev.ct (by simp) Ev.pure
      have := implSweep hF hh d (i + 1) ds c (by omega) (by omega) (by omega) h3
      refine Ev.ct (dt (by simp [h3]; omega)) (Ev.bind ha5 ?_)
      simp only []
      rw [wrap_nat (by omega)]
      simpa only [sweep, hlv, Bool.false_eq_true, if_false] using this

theorem implRounds {p : GProgram} {hs : List (List Int)} {f : Nat} {m : GFunc} {h : List Int} (hF : Fn p f m h) (hh : hs[f]? = some h) {ds o : List B} (hr : Rounds (prs m h) (allB m h) (live h) m.code.length ds o) : ds.length = m.code.length →
    Ev (fun k => impl_prog_doms.l3 k (tI ds) ⟨p, hs⟩ (f : Int) (allB m h).toInt true) (tI o) := by
  have hc := hF.code
  induction hr with
  | @stop ds ds' e =>
    intro h3
    have := implSweep hF hh (m.code.length - 1) 1 ds false rfl (by omega) (by omega) h3
    rw [e] at this
    refine Ev.succ ?_
    simp only [impl_prog_doms.l3]
    refine Ev.ct rfl (Ev.bind this ?_)
    refine Ev.succ ?_
    simp only [impl_prog_doms.l3]
    exact Ev.cf rfl Ev.pure
  | @go ds ds' o e h2 ih =>
    intro h3
    have := implSweep hF hh (m.code.length - 1) 1 ds false rfl (by omega) (by omega) h3
    have hlen := sweep_len (prs m h) (allB m h) (live h) (m.code.length - 1) 1 ds false
    rw [e] at this hlen
    refine Ev.succ ?_
    simp only [impl_prog_doms.l3]
    exact Ev.ct rfl (Ev.bind this (ih (by simpa [h3] using hlen)))

/-- The masks of a function: the program's, and what is known of them. -/
theorem implDoms {p : GProgram} {hs : List (List Int)} {f : Nat} {m : GFunc} {h : List Int} (hF : Fn p f m h) (hh : hs[f]? = some h) {o : List B} (hr : Rounds (prs m h) (allB m h) (live h) m.code.length (start m h) o) :
    Ev (fun k => impl_prog_doms k ⟨p, hs⟩ (f : Int)) (tI o) := by
  have hc := hF.code
  have hcode := code_ev (hs := hs) hF.at_
  have h1 := implAll hF hh _ 0 rfl (by omega)
  have h2 := implStart (m := m) (h := h) ⟨p, hs⟩ (f : Int) hc.2 _ 0 rfl (by omega)
  have e0 : tI (startUp h (allB m h) m.code.length 0) = List.replicate m.code.length 0 := by simp [tI, startUp]
  rw [e0] at h2
  obtain ⟨v, hv⟩ := list_get (show 0 < (startUp h (allB m h) m.code.length m.code.length).length by rw [startUp_len]; omega)
  have h3 := implRounds hF hh hr (by simp [startUp_len])
  have e1 : (tI (startUp h (allB m h) m.code.length m.code.length)).set 0 1 = tI (start m h) := by
    rw [← tI_set]; rfl
  unfold impl_prog_doms
  refine Ev.bind (Ev.const hcode) (Ev.bind h1 (Ev.bind (Ev.const hcode) (Ev.gd ⟨by omega, by omega, by omega⟩ (Ev.bind h2 ?_))))
  refine Ev.bind (a := v.toInt) (Ev.const ?_) ?_
  · rw [show (0 : Int) = ((0 : Nat) : Int) from rfl, idx_nat]
    exact tI_get hv
  · rw [e1]
    exact Ev.bind h3 Ev.pure
theorem specDoms {p : GProgram} (ha : Args64 p) (hp : RightP p) {f : Nat} {m : GFunc} {h : List Int} (hF : Fn p f m h) (hN : RunN p m (some h)) {o : List B} (hr : Rounds (prs m h) (allB m h) (live h) m.code.length (start m h) o) :
    Ev (fun k => spec_l17Doms k p (f : Int)) (tI o) := by
  have hc := hF.code
  have hl := hF.size
  obtain ⟨out, t1, t2⟩ := specPredsTab ha hp hF.at_ hN hl
  have h1 := specAll hl hc.2 out _ 0 rfl (by omega)
  have h2 := specStart hl hc.2 out (allB m h) _ 0 rfl (by omega)
  have e0 : tI (startUp h (allB m h) m.code.length 0) = List.replicate h.length 0 := by simp [tI, startUp, hl]
  rw [e0] at h2
  obtain ⟨v, hv⟩ := list_get (show 0 < (startUp h (allB m h) m.code.length m.code.length).length by rw [startUp_len]; omega)
  have h3 := specRounds hl hc t2 hr (by simp [startUp_len])
  have e1 : (tI (startUp h (allB m h) m.code.length m.code.length)).set 0 1 = tI (start m h) := by
    rw [← tI_set]; rfl
  unfold spec_l17Doms
  refine Ev.bind (specHeightsN ha hp hF.at_ hN) (Ev.bind t1 (Ev.bind h1 (Ev.gd ⟨by simp only []; omega, by simp only []; omega, by simp only []; omega⟩ (Ev.bind h2 ?_))))
  refine Ev.bind (a := v.toInt) (Ev.const ?_) ?_
  · rw [show (0 : Int) = ((0 : Nat) : Int) from rfl, idx_nat]
    exact tI_get hv
  · simp only []
    rw [e1]
    exact Ev.bind h3 Ev.pure

end Go.Proofs.Ytdlaplgofgklnaa
namespace Go.Proofs.Ytdlaplgofgklnaa
open Go.Proofs Go.Proofs.Ytdlaplgofgklnaa.L
set_option linter.unusedVariables false
set_option linter.unusedSimpArgs false

/-- What is reached backwards from some places, around those of a mask. -/
def Closed (pr : Nat → List Int) (M S : B) : Prop := ∀ x, S.getLsbD x = true → M.getLsbD x = false → ∀ p ∈ pr x, S.getLsbD p.toNat = true
structure Body (pr : Nat → List Int) (M : B) (vs : List Int) (R : B) : Prop where
  sub : Sub M R
  has : ∀ v ∈ vs, R.getLsbD v.toNat = true
  closed : Closed pr M R
  least : ∀ S, Sub M S → (∀ v ∈ vs, S.getLsbD v.toNat = true) → Closed pr M S → Sub R S
theorem Sub.anti {a b : B} (h1 : Sub a b) (h2 : Sub b a) : a = b := by
  apply BitVec.eq_of_getLsbD_eq
  intro n _
  cases e : a.getLsbD n with
  | true => exact (h1 n e).symm
  | false => cases e2 : b.getLsbD n with
    | false => rfl
    | true => rw [h2 n e2] at e; cases e
theorem Body.unique {pr : Nat → List Int} {M : B} {vs : List Int} {R R2 : B} (h : Body pr M vs R) (h2 : Body pr M vs R2) : R = R2 :=
  Sub.anti (h.least _ h2.sub h2.has h2.closed) (h2.least _ h.sub h.has h.closed)
theorem Body.nil (pr : Nat → List Int) (M : B) : Body pr M [] M :=
  ⟨Sub.refl _, fun v hv => (by cases hv), fun x h1 h2 => (by rw [h1] at h2; cases h2), fun S h _ _ => h⟩
theorem Body.skip {pr : Nat → List Int} {M : B} {st : List Int} {x : Int} {R : B} (hx : M.getLsbD x.toNat = true) (h : Body pr M st R) : Body pr M (st ++ [x]) R := by
  refine ⟨h.sub, fun v hv => ?_, h.closed, fun S h1 h2 h3 => h.least S h1 (fun v hv => h2 v (by simp [hv])) h3⟩
  rw [List.mem_append, List.mem_singleton] at hv
  rcases hv with hv | rfl
  · exact h.has v hv
  · exact h.sub _ hx
theorem or_bit {M : B} {n m : Nat} (h : n < 64) : (M ||| bitB n).getLsbD m = (M.getLsbD m || decide (m = n)) := by
  rw [BitVec.getLsbD_or, bitB_get _ _ h]
theorem sub_or (M : B) (n : Nat) : Sub M (M ||| bitB n) := fun m hm => by rw [BitVec.getLsbD_or, hm]; rfl
theorem Body.open_ {pr : Nat → List Int} {M : B} {st : List Int} {x : Nat} {R : B} (hx : x < 64) (hM : M.getLsbD x = false) (h : Body pr (M ||| bitB x) (st ++ pr x) R) : Body pr M (st ++ [(x : Int)]) R := by
  have hin : R.getLsbD x = true := h.sub x (by rw [or_bit hx]; simp)
  refine ⟨fun m hm => h.sub m (sub_or M x m hm), fun v hv => ?_, fun y h1 h2 p hp => ?_, fun S h1 h2 h3 => h.least S (fun m hm => ?_) (fun v hv => ?_) (fun y k1 k2 p hp => ?_)⟩
  · rw [List.mem_append, List.mem_singleton] at hv
    rcases hv with hv | rfl
    · exact h.has v (by simp [hv])
    · exact hin
  · by_cases e : y = x
    · subst e
      exact h.has p (by simp [hp])
    · exact h.closed y h1 (by rw [or_bit hx]; simp [h2, e]) p hp
  · rw [or_bit hx, Bool.or_eq_true] at hm
    rcases hm with hm | hm
    · exact h1 m hm
    · have : m = x := by simpa using hm
      subst this
      exact h2 (m : Int) (by simp)
  · rw [List.mem_append] at hv
    rcases hv with hv | hv
    · exact h2 v (by simp [hv])
    · exact h3 x (h2 (x : Int) (by simp)) hM v hv
  · rw [or_bit hx, Bool.or_eq_false_iff] at k2
    exact h3 y k1 k2.1 p hp
theorem Body.cons {pr : Nat → List Int} {M R1 R : B} {p : Int} {ns : List Int} (h1 : Body pr M [p] R1) (h2 : Body pr R1 ns R) : Body pr M (p :: ns) R := by
  refine ⟨fun m hm => h2.sub m (h1.sub m hm), fun v hv => ?_, fun y k1 k2 q hq => ?_, fun S k1 k2 k3 => ?_⟩
  · rcases List.mem_cons.1 hv with rfl | hv
    · exact h2.sub _ (h1.has v (by simp))
    · exact h2.has v hv
  · cases e : R1.getLsbD y with
    | true => exact h2.sub _ (h1.closed y e k2 q hq)
    | false => exact h2.closed y k1 e q hq
  · have s1 : Sub R1 S := h1.least S k1 (fun v hv => k2 v (by rw [List.mem_singleton] at hv; simp [hv])) k3
    refine h2.least S s1 (fun v hv => k2 v (by simp [hv])) fun y j1 j2 q hq => k3 y j1 ?_ q hq
    cases e : M.getLsbD y with
    | false => rfl
    | true => rw [h1.sub y e] at j2; cases j2

/-! ### How many are free -/
def free (M : B) : Nat := ((List.range 64).filter fun n => !M.getLsbD n).length
theorem filter_le {α : Type} {p q : α → Bool} : ∀ (l : List α), (∀ x ∈ l, q x = true → p x = true) → (l.filter q).length ≤ (l.filter p).length
  | [], _ => Nat.le_refl _
  | a :: l, h => by
    have ih := filter_le l fun x hx => h x (List.mem_cons_of_mem _ hx)
    have ha := h a (by simp)
    simp only [List.filter_cons]
    cases e : q a with
    | false => cases p a <;> simp <;> omega
    | true => simp [ha e]; exact ih
theorem filter_lt {α : Type} {p q : α → Bool} : ∀ (l : List α), (∀ x ∈ l, q x = true → p x = true) → (∃ x ∈ l, p x = true ∧ q x = false) → (l.filter q).length < (l.filter p).length
  | [], _, ⟨x, hx, _⟩ => by cases hx
  | a :: l, h, ⟨x, hx, h1, h2⟩ => by
    have le := filter_le l fun x hx => h x (List.mem_cons_of_mem _ hx)
    have ha := h a (by simp)
    rcases List.mem_cons.1 hx with rfl | hx
    · simp [List.filter_cons, h1, h2]
      omega
    · have ih := filter_lt l (fun x hx => h x (List.mem_cons_of_mem _ hx)) ⟨x, hx, h1, h2⟩
      simp only [List.filter_cons]
      cases e : q a with
      | false => cases p a <;> simp <;> omega
      | true => simp [ha e]; exact ih
theorem free_le {M M' : B} (h : Sub M M') : free M' ≤ free M := by
  refine filter_le _ fun n _ hn => ?_
  cases e : M.getLsbD n with
  | false => rfl
  | true => rw [h n e] at hn; cases hn
theorem free_lt {M : B} {x : Nat} (hx : x < 64) (hM : M.getLsbD x = false) : free (M ||| bitB x) < free M := by
  refine filter_lt _ (fun n _ hn => ?_) ⟨x, by simp [hx], by simp [hM], by rw [or_bit hx]; simp⟩
  cases e : M.getLsbD n with
  | false => rfl
  | true => rw [sub_or M x n e] at hn; cases hn
theorem free_top (M : B) : free M ≤ 64 := by
  have := List.length_filter_le (fun n => !M.getLsbD n) (List.range 64)
  simpa [free] using this

theorem test_ne (b : B) (n : Nat) (h : n < 64) : (iand .i64 b.toInt (bitB n).toInt != 0) = b.getLsbD n := by
  rw [iand_t, show (0 : Int) = (0#64 : B).toInt from by decide, toInt_ne]
  have : (b &&& bitB n) = if b.getLsbD n then bitB n else 0#64 := by
    apply BitVec.eq_of_getLsbD_eq
    intro i hi
    rw [BitVec.getLsbD_and, bitB_get _ _ h]
    by_cases e : i = n
    · subst e
      cases e2 : b.getLsbD i with
      | false => simp
      | true => simp [bitB_get _ _ h]
    · cases b.getLsbD n <;> simp [e, bitB_get _ _ h]
  rw [this]
  cases e : b.getLsbD n with
  | false => simp
  | true =>
    simp only [if_true]
    refine bne_iff_ne.2 fun e2 => ?_
    have := bitB_get n n h
    rw [e2] at this
    simp at this

/-! ### The reference's way: places that wait -/
theorem last_at {α : Type} (st : List α) (x : α) : (st ++ [x])[st.length]? = some x := by simp
/-- Rows of places. -/
structure Pr (len : Nat) (pr : Nat → List Int) : Prop where
  short : ∀ i, (pr i).length ≤ 60
  mem : ∀ i, ∀ p ∈ pr i, ∃ n : Nat, p = (n : Int) ∧ n < len
theorem specBody {len : Nat} {pr : Nat → List Int} (hl : len ≤ 60) (hp : Pr len pr) {tab : List (List Int)} (ht : ∀ t, t < len → tab[t]? = some (pr t)) : ∀ (n : Nat) (k : Nat) (M : B) (st : List Int), free M = n → st.length = k → st.length + 60 * free M ≤ 10000 → (∀ p ∈ st, ∃ n : Nat, p = (n : Int) ∧ n < len) →
    ∃ R, Ev (fun k => spec_l17Body.l1 k tab M.toInt st) R.toInt ∧ Body pr M st R := by
  intro n
  induction n using Nat.strongRecOn with
  | ind n ihn =>
    intro k
    induction k with
    | zero =>
      intro M st hn hk hb hst
      have : st = [] := List.length_eq_zero_iff.1 hk
      subst this
      refine ⟨M, ?_, Body.nil pr M⟩
      refine Ev.succ ?_
      simp only [spec_l17Body.l1]
      exact Ev.cf (df (by simp)) Ev.pure
    | succ k ihk =>
      intro M st hn hk hb hst
      obtain ⟨st', y, rfl⟩ : ∃ st' y, st = st' ++ [y] := by
        refine ⟨st.dropLast, st.getLast (by intro e; subst e; simp at hk), ?_⟩
        exact (List.dropLast_concat_getLast _).symm
      obtain ⟨x, rfl, hx⟩ := hst y (by simp)
      have hk' : st'.length = k := by simpa using hk
      have hlen : (((st' ++ [(x : Int)]).length : Int)) - 1 = (st'.length : Int) := by simp
      have hw : IntKind.i64.wrap ((((st' ++ [(x : Int)]).length : Int)) - 1) = (st'.length : Int) := by
        rw [hlen]
        exact wrap_id (by omega) (by simp at hb; omega)
      have htake : (st' ++ [(x : Int)]).take ((st'.length : Int)).toNat = st' := by simp
      have hstp : ∀ p ∈ st', ∃ n : Nat, p = (n : Int) ∧ n < len := fun p h => hst p (by simp [h])
      cases e : M.getLsbD x with
      | true =>
        obtain ⟨R, h1, h2⟩ := ihk M st' hn hk' (by simp at hb; omega) hstp
        refine ⟨R, ?_, Body.skip (by simpa using e) h2⟩
        refine Ev.succ ?_
        simp only [spec_l17Body.l1]
        refine Ev.ct (dt (by simp)) ?_
        rw [hw]
        refine Ev.idx (last_at st' (x : Int)) (Ev.gd ⟨by omega, by simp; omega⟩ (Ev.bind (Ev.const (bit_ev x (by omega))) ?_))
        rw [test_ne _ _ (by omega), htake]
        exact Ev.ct e h1
      | false =>
        have hlt := free_lt (M := M) (x := x) (by omega) e
        have hs := hp.short x
        obtain ⟨R, h1, h2⟩ := ihn _ (by omega) (st' ++ pr x).length (M ||| bitB x) (st' ++ pr x) rfl rfl (by simp at hb ⊢; omega) (fun p h => by
          rw [List.mem_append] at h
          rcases h with h | h
          · exact hstp p h
          · exact hp.mem x p h)
        refine ⟨R, ?_, Body.open_ (by omega) e h2⟩
        refine Ev.succ ?_
        simp only [spec_l17Body.l1]
        refine Ev.ct (dt (by simp)) ?_
        rw [hw]
        refine Ev.idx (last_at st' (x : Int)) (Ev.gd ⟨by omega, by simp; omega⟩ (Ev.bind (Ev.const (bit_ev x (by omega))) ?_))
        rw [test_ne _ _ (by omega), htake]
        refine Ev.cf e (Ev.bind (Ev.const (bit_ev x (by omega))) (Ev.idx (ht x hx) (Ev.gd ⟨by simp at hb ⊢; omega, by simp at hb ⊢; omega⟩ ?_)))
        rw [ior_t]
        exact h1

/-! ### The program's way: from place to place -/
/-- With enough rounds of both kinds. -/
def Ev2 {α : Type} (f : Nat → Nat → Option α) (v : α) : Prop := ∃ k0, ∀ a b, k0 ≤ a → k0 ≤ b → f a b = some v
theorem Ev2.one {α : Type} {f : Nat → Nat → Option α} {v : α} (h : Ev2 f v) : Ev (fun k => f k k) v := by
  obtain ⟨k0, h⟩ := h
  exact ⟨k0, fun k hk => h k k hk hk⟩
theorem implBodyLoop {pr : Nat → List Int} {M1 : B} {rec : Nat → Gprog → Int → Int → Int → Int → Option Int} (g : Gprog) (f hd : Int) : ∀ (ns pre : List Int) (M : B), (pre ++ ns).length < 100 → Sub M1 M →
    (∀ p ∈ ns, ∀ M', Sub M1 M' → ∃ R, Ev (fun k => rec k g f hd p M'.toInt) R.toInt ∧ Body pr M' [p] R) →
    ∃ R, Ev2 (fun a b => impl_prog_body.l1 (rec a) b (pre ++ ns) g f hd M.toInt ((pre ++ ns).length : Int) (pre.length : Int)) R.toInt ∧ Body pr M ns R
  | [], pre, M, hp, hs, hr => by
    refine ⟨M, ⟨1, fun a b _ hb => ?_⟩, Body.nil pr M⟩
    obtain ⟨b', rfl⟩ : ∃ b', b = b' + 1 := ⟨b - 1, by omega⟩
    simp only [impl_prog_body.l1]
    rw [df (by simp)]
    rfl
  | t :: ns, pre, M, hp, hs, hr => by
    have hmid := at_mid pre t ns
    have hl : (pre.length : Int) < ((pre ++ t :: ns).length : Int) := by simp; omega
    have pre' : pre ++ t :: ns = (pre ++ [t]) ++ ns := by simp
    have plen : ((pre.length + 1 : Nat) : Int) = ((pre ++ [t]).length : Int) := by simp
    obtain ⟨R1, ⟨k1, r1⟩, b1⟩ := hr t (by simp) M hs
    obtain ⟨R, ⟨k2, r2⟩, b2⟩ := implBodyLoop (rec := rec) g f hd ns (pre ++ [t]) R1 (by rw [← pre']; exact hp) (fun m hm => b1.sub m (hs m hm)) (fun p h => hr p (List.mem_cons_of_mem _ h))
    refine ⟨R, ⟨k1 + k2 + 1, fun a b ha hb => ?_⟩, Body.cons b1 b2⟩
    obtain ⟨b', rfl⟩ : ∃ b', b = b' + 1 := ⟨b - 1, by omega⟩
    have q1 : rec a g f hd t M.toInt = some R1.toInt := r1 a (by omega)
    have q2 := r2 a b' (by omega) (by omega)
    simp only [impl_prog_body.l1]
    rw [dt hl, idx_nat, hmid]
    simp only [cond_true, Option.bind_some]
    rw [q1]
    simp only [Option.bind_some]
    rw [wrap_nat (by simp at hp; omega), plen, pre']
    exact q2

theorem implBody {g : Gprog} {f : Int} {len : Nat} {pr : Nat → List Int} (hl : len ≤ 60) (hp : Pr len pr) (hev : ∀ t : Nat, t < len → Ev (fun k => impl_prog_preds k g f (t : Int)) (pr t)) (hd : Int) : ∀ (n : Nat) (M : B) (x : Nat), free M = n → x < len →
    ∃ R, Ev (fun k => impl_prog_body k g f hd (x : Int) M.toInt) R.toInt ∧ Body pr M [(x : Int)] R := by
  intro n
  induction n using Nat.strongRecOn with
  | ind n ih =>
    intro M x hn hx
    cases e : M.getLsbD x with
    | true =>
      refine ⟨M, ?_, by simpa using Body.skip (st := []) (x := (x : Int)) (by simpa using e) (Body.nil pr M)⟩
      refine Ev.succ ?_
      simp only [impl_prog_body]
      refine Ev.gd (by omega) ?_
      rw [test_t _ _ (by omega), e]
      exact Ev.ct (by simp) Ev.pure
    | false =>
      have hlt := free_lt (M := M) (x := x) (by omega) e
      obtain ⟨R, r1, r2⟩ := implBodyLoop (pr := pr) (M1 := M ||| bitB x) (rec := impl_prog_body) g f hd (pr x) [] (M ||| bitB x) (by have := hp.short x; simp; omega) (Sub.refl _) (fun p hpm M' hs => by
        obtain ⟨m, rfl, hm⟩ := hp.mem x p hpm
        have := free_le hs
        exact ih (free M') (by omega) M' m rfl hm)
      refine ⟨R, ?_, by simpa using Body.open_ (st := []) (x := x) (by omega) e (by simpa using r2)⟩
      refine Ev.succ ?_
      simp only [impl_prog_body]
      refine Ev.gd (by omega) ?_
      rw [test_t _ _ (by omega), e]
      refine Ev.cf (by simp) (Ev.gd (by omega) (Ev.bind (hev x hx) ?_))
      rw [ishl_t x (by omega), ior_t]
      exact Ev.bind r1.one Ev.pure

end Go.Proofs.Ytdlaplgofgklnaa
namespace Go.Proofs.Ytdlaplgofgklnaa
open Go.Proofs Go.Proofs.Ytdlaplgofgklnaa.L
set_option linter.unusedVariables false
set_option linter.unusedSimpArgs false

/-- What is at hand for a function's loops. -/
structure Hand (p : GProgram) (hs : List (List Int)) (f : Nat) (m : GFunc) (h : List Int) (tab : List (List Int)) (ds : List B) : Prop where
  fn : Fn p f m h
  hts : hs[f]? = some h
  tab_ : Tab m.code h m.code.length tab
  inv : SInv (prs m h) (allB m h) (live h) m.code.length ds
  goes : ∀ t : Nat, t < m.code.length → prs m h t ≠ [] → live h t = true
theorem Hand.pr {p : GProgram} {hs : List (List Int)} {f : Nat} {m : GFunc} {h : List Int} {tab : List (List Int)} {ds : List B} (H : Hand p hs f m h tab ds) : Pr m.code.length (prs m h) := by
  refine ⟨fun i => ?_, fun i p hp => ?_⟩
  · have := predsUp_length m.code h (i : Int) m.code.length
    have := H.fn.code
    show (predsUp m.code h (i : Int) m.code.length).length ≤ 60
    omega
  · obtain ⟨n, g1, g2, -⟩ := predsUp_mem hp
    exact ⟨n, g2, g1⟩

/-- The body around a mask: both. -/
theorem body_both {p : GProgram} {hs : List (List Int)} {f : Nat} {m : GFunc} {h : List Int} {tab : List (List Int)} {ds : List B} (H : Hand p hs f m h tab ds) (hd : Int) (M : B) {x : Nat} (hx : x < m.code.length) :
    ∃ R, Ev (fun k => spec_l17Body k tab M.toInt (x : Int)) R.toInt ∧ Ev (fun k => impl_prog_body k ⟨p, hs⟩ (f : Int) hd (x : Int) M.toInt) R.toInt ∧ Sub M R := by
  have hc := H.fn.code
  obtain ⟨R, r1, r2⟩ := specBody hc.2 H.pr H.tab_.row _ _ M [(x : Int)] rfl rfl (by have := free_top M; simp; omega) (fun q hq => ⟨x, by simpa using hq, hx⟩)
  obtain ⟨R', q1, q2⟩ := implBody (g := ⟨p, hs⟩) (f := (f : Int)) hc.2 H.pr (fun t ht => implPreds H.fn.at_ H.hts H.fn.size hc.2 (t : Int)) hd _ M x rfl hx
  have := Body.unique r2 q2
  subst this
  exact ⟨R, Ev.bind r1 Ev.pure, q1, r2.sub⟩

theorem edges_both {p : GProgram} {hs : List (List Int)} {f : Nat} {m : GFunc} {h : List Int} {tab : List (List Int)} {ds : List B} (H : Hand p hs f m h tab ds) {t : Nat} (ht : t < m.code.length) (L : List GI3) (a9 a10 : Int) :
    ∀ (ns pre : List Int) (M : B) (c : Bool), pre ++ ns = prs m h t → M.getLsbD t = true → (c = false → M = bitB t) →
    ∃ M' c', M'.getLsbD t = true ∧ (c' = false → M' = bitB t) ∧
      Ev (fun k => spec_Loops.l3 k tab (tI ds) L (t : Int) (if c then M else 0#64).toInt (pre.length : Int)) (tab, tI ds, L, (t : Int), (if c' then M' else 0#64).toInt) ∧
      Ev (fun k => impl_Loops.l3 k ⟨p, hs⟩ (tI ds) L (prs m h t) (f : Int) (t : Int) M.toInt c a9 a10 ((prs m h t).length : Int) (pre.length : Int)) (⟨p, hs⟩, tI ds, L, (f : Int), (t : Int), M'.toInt, c', a9, a10)
  | [], pre, M, c, e, h1, h2 => by
    have hrow := H.tab_.row t ht
    have el : pre.length = (prs m h t).length := by rw [← e]; simp
    refine ⟨M, c, h1, h2, ?_, ?_⟩
    · refine Ev.succ ?_
      simp only [spec_Loops.l3]
      refine Ev.idx hrow (Ev.cf (df (by show ¬ (pre.length : Int) < ((prs m h t).length : Int); omega)) ?_)
      rw [Int.toNat_natCast, set_same hrow]
      exact Ev.pure
    · refine Ev.succ ?_
      simp only [impl_Loops.l3]
      exact Ev.cf (df (by omega)) Ev.pure
  | q :: ns, pre, M, c, e, h1, h2 => by
    have hc := H.fn.code
    have hrow : tab[t]? = some (prs m h t) := H.tab_.row t ht
    have hmid : (prs m h t)[pre.length]? = some q := by rw [← e]; exact at_mid pre q ns
    have hlen : (prs m h t).length = pre.length + 1 + ns.length := by rw [← e]; simp; omega
    have hshort : (prs m h t).length ≤ 60 := H.pr.short t
    have plen : ((pre.length + 1 : Nat) : Int) = ((pre ++ [q]).length : Int) := by simp
    obtain ⟨n, rfl, hn⟩ := H.pr.mem t q (by rw [← e]; simp)
    have hlv : live h t = true := H.goes t ht (by rw [← e]; simp)
    have hds := H.inv.size
    obtain ⟨v, hv⟩ := list_get (show n < ds.length by omega)
    obtain ⟨w, hw⟩ := list_get (show t < ds.length by omega)
    have hown : w.getLsbD t = true := by have := H.inv.own t ht hlv; rwa [at0_of hw] at this
    have hw0 : (w.toInt != 0) = true := by
      rw [show (0 : Int) = (0#64 : B).toInt from by decide, toInt_ne]
      exact bne_iff_ne.2 fun e => by rw [e] at hown; simp at hown
    have hor : ((if c then M else 0#64) ||| bitB t) = M := by
      cases c with
      | false => rw [h2 rfl]; simp
      | true =>
        apply BitVec.eq_of_getLsbD_eq
        intro i hi
        simp only [if_true]
        rw [or_bit (by omega)]
        by_cases e : i = t
        · subst e; simp [h1]
        · simp [e]
    have e' : (pre ++ [(n : Int)]) ++ ns = prs m h t := by rw [← e]; simp
    have hset : tab.set ((t : Int)).toNat (prs m h t) = tab := by rw [Int.toNat_natCast, set_same hrow]
    cases hb : v.getLsbD t with
    | true =>
      obtain ⟨R, r1, r2, r3⟩ := body_both H (t : Int) M hn
      obtain ⟨M', c', g1, g2, g3, g4⟩ := edges_both H ht L a9 a10 ns (pre ++ [(n : Int)]) R true e' (r3 t h1) (fun h => by cases h)
      refine ⟨M', c', g1, g2, ?_, ?_⟩
      · refine Ev.succ ?_
        simp only [spec_Loops.l3]
        refine Ev.idx hrow (Ev.ct (dt (by omega)) (Ev.idx hmid (Ev.idx (tI_get hw) (Ev.ct hw0 (Ev.idx (tI_get hv) (Ev.bind (Ev.const (bit_ev t (by omega))) ?_))))))
        rw [test_ne _ _ (by omega), hset, wrap_nat (by omega), plen]
        refine Ev.ct hb (Ev.bind (Ev.const (bit_ev t (by omega))) ?_)
        rw [ior_t, hor]
        exact Ev.bind r1 g3
      · refine Ev.succ ?_
        simp only [impl_Loops.l3]
        refine Ev.ct (dt (by omega)) (Ev.idx hmid (Ev.idx (tI_get hv) (Ev.gd (by omega) ?_)))
        rw [test_t _ _ (by omega), hb, wrap_nat (by omega), plen]
        exact Ev.ct (by simp) (Ev.bind r2 g4)
    | false =>
      obtain ⟨M', c', g1, g2, g3, g4⟩ := edges_both H ht L a9 a10 ns (pre ++ [(n : Int)]) M c e' h1 h2
      refine ⟨M', c', g1, g2, ?_, ?_⟩
      · refine Ev.succ ?_
        simp only [spec_Loops.l3]
        refine Ev.idx hrow (Ev.ct (dt (by omega)) (Ev.idx hmid (Ev.idx (tI_get hw) (Ev.ct hw0 (Ev.idx (tI_get hv) (Ev.bind (Ev.const (bit_ev t (by omega))) ?_))))))
        rw [test_ne _ _ (by omega), hset, wrap_nat (by omega), plen]
        exact Ev.cf hb g3
      · refine Ev.succ ?_
        simp only [impl_Loops.l3]
        refine Ev.ct (dt (by omega)) (Ev.idx hmid (Ev.idx (tI_get hv) (Ev.gd (by omega) ?_)))
        rw [test_t _ _ (by omega), hb, wrap_nat (by omega), plen]
        exact Ev.cf (by simp) g4

/-- A loop that has been found. -/
def LpOk (K : Nat) (l : GI3) : Prop := ∃ (n : Nat) (v : B) (c : Nat), l = ⟨(n : Int), v.toInt, (c : Int)⟩ ∧ n < 60 ∧ c ≤ K
theorem heads_both {p : GProgram} {hs : List (List Int)} {f : Nat} {m : GFunc} {h : List Int} {tab : List (List Int)} {ds : List B} (H : Hand p hs f m h tab ds) :
    ∀ (d t : Nat) (L : List GI3), m.code.length - t = d → t ≤ m.code.length → L.length ≤ t → (∀ l ∈ L, LpOk 0 l) →
    ∃ L', Ev (fun k => spec_Loops.l1 k tab (tI ds) L (t : Int)) L' ∧ Ev (fun k => impl_Loops.l1 k ⟨p, hs⟩ (tI ds) (f : Int) L (m.code.length : Int) (t : Int)) L' ∧ L'.length ≤ 60 ∧ ∀ l ∈ L', LpOk 0 l
  | 0, t, L, hd, ht, hL, hok => by
    have hc := H.fn.code
    have hds := H.inv.size
    refine ⟨L, ?_, ?_, by omega, hok⟩
    · refine Ev.succ ?_
      simp only [spec_Loops.l1]
      exact Ev.cf (df (by simp [tI]; omega)) Ev.pure
    · refine Ev.succ ?_
      simp only [impl_Loops.l1]
      exact Ev.cf (df (by omega)) Ev.pure
  | d + 1, t, L, hd, ht, hL, hok => by
    have hc := H.fn.code
    have hds := H.inv.size
    have htl : t < m.code.length := by omega
    obtain ⟨M', c', g1, g2, g3, g4⟩ := edges_both H htl L (m.code.length : Int) (t : Int) (prs m h t) [] (bitB t) false rfl (by rw [bitB_get _ _ (by omega)]; simp) (fun _ => rfl)
    have z0 : (0#64 : B).toInt = 0 := by decide
    simp only [List.length_nil, Bool.false_eq_true, if_false, z0] at g3 g4
    have hne : ((if c' then M' else 0#64 : B).toInt != 0) = c' := by
      rw [show (0 : Int) = (0#64 : B).toInt from by decide, toInt_ne]
      cases c' with
      | false => simp
      | true =>
        simp only [if_true]
        exact bne_iff_ne.2 fun e => by rw [e] at g1; simp at g1
    have hs2 : Ev (fun k => spec_Loops.a2 k tab (tI ds) L (t : Int)) (tab, tI ds, (if c' then L ++ [⟨(t : Int), M'.toInt, 0⟩] else L), (t : Int)) := by
      unfold spec_Loops.a2
      refine Ev.bind g3 ?_
      simp only []
      rw [hne]
      cases c' with
      | false => exact Ev.cf rfl Ev.pure
      | true => exact Ev.ct rfl (Ev.gd ⟨by omega, by omega⟩ Ev.pure)
    have hi2 : Ev (fun k => impl_Loops.a2 k ⟨p, hs⟩ (tI ds) L (f : Int) (m.code.length : Int) (t : Int)) (⟨p, hs⟩, tI ds, (f : Int), (if c' then L ++ [⟨(t : Int), M'.toInt, 0⟩] else L), (m.code.length : Int), (t : Int)) := by
      unfold impl_Loops.a2
      refine Ev.gd (by omega) (Ev.bind (implPreds H.fn.at_ H.hts H.fn.size hc.2 (t : Int)) ?_)
      rw [ishl_t t (by omega)]
      refine Ev.bind g4 ?_
      simp only []
      cases c' with
      | false => exact Ev.cf rfl Ev.pure
      | true => exact Ev.ct rfl (Ev.gd ⟨by omega, by omega⟩ Ev.pure)
    obtain ⟨L', k1, k2, k3, k4⟩ := heads_both H d (t + 1) (if c' then L ++ [⟨(t : Int), M'.toInt, 0⟩] else L) (by omega) (by omega) (by cases c' <;> simp <;> omega) (by
      intro l hl
      split at hl
      · rw [List.mem_append, List.mem_singleton] at hl
        rcases hl with hl | rfl
        · exact hok l hl
        · exact ⟨t, M', 0, rfl, by omega, Nat.le_refl _⟩
      · exact hok l hl)
    refine ⟨L', ?_, ?_, k3, k4⟩
    · refine Ev.succ ?_
      simp only [spec_Loops.l1]
      refine Ev.ct (dt (by simp [tI]; omega)) (Ev.bind hs2 ?_)
      simp only []
      rw [wrap_nat (by omega)]
      exact k1
    · refine Ev.succ ?_
      simp only [impl_Loops.l1]
      refine Ev.ct (dt (by omega)) (Ev.bind hi2 ?_)
      simp only []
      rw [wrap_nat (by omega)]
      exact k2

theorem deep_both {i : Nat} (a3 a4 : Int) : ∀ (d j : Nat) (L : List GI3) (K : Nat), L.length - j = d → j ≤ L.length → i < L.length → L.length ≤ 60 → K + d ≤ 10000 → (∀ l ∈ L, LpOk K l) →
    ∃ L', Ev (fun k => spec_Loops.l5 k L (i : Int) (j : Int)) (L', (i : Int)) ∧ Ev (fun k => impl_Loops.l5 k L (i : Int) a3 a4 (L.length : Int) (j : Int)) (L', a3, a4) ∧ L'.length = L.length ∧ ∀ l ∈ L', LpOk (K + d) l
  | 0, j, L, K, hd, hj, hi, hL, hK, hok => by
    refine ⟨L, ?_, ?_, rfl, hok⟩
    · refine Ev.succ ?_
      simp only [spec_Loops.l5]
      exact Ev.cf (df (by omega)) Ev.pure
    · refine Ev.succ ?_
      simp only [impl_Loops.l5]
      exact Ev.cf (df (by omega)) Ev.pure
  | d + 1, j, L, K, hd, hj, hi, hL, hK, hok => by
    obtain ⟨x, hx⟩ := list_get (show j < L.length by omega)
    obtain ⟨y, hy⟩ := list_get hi
    obtain ⟨n1, v, c1, rfl, q1, q2⟩ := hok x (List.mem_of_getElem? hx)
    obtain ⟨n, w, c, rfl, q3, q4⟩ := hok y (List.mem_of_getElem? hy)
    cases hb : v.getLsbD n with
    | true =>
      obtain ⟨L', k1, k2, k3, k4⟩ := deep_both a3 a4 d (j + 1) (L.set i ⟨(n : Int), w.toInt, ((c + 1 : Nat) : Int)⟩) (K + 1) (by simp; omega) (by simp; omega) (by simpa using hi) (by simpa using hL) (by omega) (by
        intro l hl
        rcases List.mem_or_eq_of_mem_set hl with hl | rfl
        · obtain ⟨a, b, e, g1, g2, g3⟩ := hok l hl
          exact ⟨a, b, e, g1, g2, by omega⟩
        · exact ⟨n, w, c + 1, rfl, q3, by omega⟩)
      refine ⟨L', ?_, ?_, by simpa using k3, fun l hl => by have := k4 l hl; rwa [show K + 1 + d = K + (d + 1) by omega] at this⟩
      · refine Ev.succ ?_
        simp only [spec_Loops.l5]
        refine Ev.ct (dt (by omega)) (Ev.idx hx (Ev.idx hy (Ev.bind (Ev.const (bit_ev n (by omega))) ?_)))
        rw [test_ne _ _ (by omega)]
        refine Ev.ct hb ?_
        rw [wrap_nat (by omega), wrap_nat (by omega), Int.toNat_natCast]
        exact k1
      · refine Ev.succ ?_
        simp only [impl_Loops.l5]
        refine Ev.ct (dt (by omega)) (Ev.idx hx (Ev.idx hy (Ev.gd (by simp only []; omega) ?_)))
        rw [test_t _ _ (by omega), hb]
        simp only [if_true]
        rw [wrap_nat (by omega), wrap_nat (by omega), Int.toNat_natCast]
        simpa only [List.length_set] using k2
    | false =>
      obtain ⟨L', k1, k2, k3, k4⟩ := deep_both a3 a4 d (j + 1) L (K + 1) (by omega) (by omega) hi hL (by omega) (by
        intro l hl
        obtain ⟨a, b, e, g1, g2, g3⟩ := hok l hl
        exact ⟨a, b, e, g1, g2, by omega⟩)
      refine ⟨L', ?_, ?_, k3, fun l hl => by have := k4 l hl; rwa [show K + 1 + d = K + (d + 1) by omega] at this⟩
      · refine Ev.succ ?_
        simp only [spec_Loops.l5]
        refine Ev.ct (dt (by omega)) (Ev.idx hx (Ev.idx hy (Ev.bind (Ev.const (bit_ev n (by omega))) ?_)))
        rw [test_ne _ _ (by omega)]
        refine Ev.cf hb ?_
        rw [wrap_nat (by omega)]
        exact k1
      · refine Ev.succ ?_
        simp only [impl_Loops.l5]
        refine Ev.ct (dt (by omega)) (Ev.idx hx (Ev.idx hy (Ev.gd (by simp only []; omega) ?_)))
        rw [test_t _ _ (by omega), hb]
        simp only [Bool.false_eq_true, if_false, Int.add_zero]
        rw [wrap_nat (by omega), Int.toNat_natCast, wrap_id (by omega) (by omega), set_same hy]
        exact k2

theorem depths_both : ∀ (d i : Nat) (L : List GI3) (K : Nat), L.length - i = d → i ≤ L.length → L.length ≤ 60 → K + 60 * d ≤ 10000 → (∀ l ∈ L, LpOk K l) →
    ∃ L', Ev (fun k => spec_Loops.l4 k L (i : Int)) L' ∧ Ev (fun k => impl_Loops.l4 k L (L.length : Int) (i : Int)) L' ∧ L'.length ≤ 60
  | 0, i, L, K, hd, hi, hL, hK, hok => by
    refine ⟨L, ?_, ?_, hL⟩
    · refine Ev.succ ?_
      simp only [spec_Loops.l4]
      exact Ev.cf (df (by omega)) Ev.pure
    · refine Ev.succ ?_
      simp only [impl_Loops.l4]
      exact Ev.cf (df (by omega)) Ev.pure
  | d + 1, i, L, K, hd, hi, hL, hK, hok => by
    obtain ⟨L1, k1, k2, k3, k4⟩ := deep_both (i := i) (L.length : Int) (i : Int) L.length 0 L K (by omega) (by omega) (by omega) hL (by omega) hok
    obtain ⟨L', g1, g2, g3⟩ := depths_both d (i + 1) L1 (K + L.length) (by omega) (by omega) (by omega) (by omega) k4
    refine ⟨L', ?_, ?_, g3⟩
    · refine Ev.succ ?_
      simp only [spec_Loops.l4]
      refine Ev.ct (dt (by omega)) (Ev.bind k1 ?_)
      simp only []
      rw [wrap_nat (by omega)]
      exact g1
    · refine Ev.succ ?_
      simp only [impl_Loops.l4]
      refine Ev.ct (dt (by omega)) (Ev.bind k2 ?_)
      simp only []
      rw [wrap_nat (by omega)]
      rw [k3] at g2
      exact g2

/-- Both answer alike. -/
theorem loops_both {p : GProgram} (ha : Args64 p) (hn : p.funcs.length ≤ 1048576) (f : Int) : ∃ l, Ev (fun k => impl_Loops k p f) l ∧ Ev (fun k => spec_Loops k p f) l ∧ l.length ≤ 60 := by
  obtain ⟨hs, ok, k1, k2, k3⟩ := knownFunc_ev ha hn f
  obtain ⟨ok2, s1, s2⟩ := specIs_ev ha hn f
  by_cases c : RightP p ∧ 0 ≤ f ∧ f < (p.funcs.length : Int)
  · have e1 : ok = true := k2.2 c
    have e2 : ok2 = true := s2.2 c
    subst e1 e2
    obtain ⟨hp, hf0, hf1⟩ := c
    obtain ⟨n, rfl⟩ := Int.eq_ofNat_of_zero_le hf0
    obtain ⟨m, hm⟩ := list_get (show n < p.funcs.length by omega)
    have hmem := List.mem_of_getElem? hm
    have hform := (hp.all m hmem).1
    have hc := hform.code
    obtain ⟨h, hh, hr, hl⟩ := (k3 hp).at_ n m hm
    have hF : Fn p n m h := ⟨hm, hl, hc⟩
    obtain ⟨o, o1, o2⟩ := rounds_ex (by omega) hc.1 _ _ rfl (start_inv hF)
    obtain ⟨out, t1, t2⟩ := specPredsTab ha hp hm hr hl
    obtain ⟨hpast, -, -⟩ := heights_past hp hmem hr
    have H : Hand p hs n m h out o := by
      refine ⟨hF, hh, t2, o2, fun t ht hne => ?_⟩
      obtain ⟨q, hq⟩ := List.exists_mem_of_ne_nil _ hne
      obtain ⟨x, hx, -, hhit⟩ := predsUp_mem hq
      unfold hit at hhit
      split at hhit
      · rename_i i y hi hy
        rw [Bool.and_eq_true] at hhit
        have hy0 : 0 ≤ y := by simpa using hhit.1
        have hmem2 : (t : Int) ∈ nextL i (x : Int) := by simpa using hhit.2
        have hP := hpast x i y hi hy hy0
        have hnt := (hP.2.2 (t : Int) hmem2).2
        rw [Int.toNat_natCast] at hnt
        rw [live_of hnt]
        have hpu := putsL_range i
        have := hP.1
        exact dt (by omega)
      · cases hhit
    obtain ⟨L1, h1, h2, h3, h4⟩ := heads_both H _ 0 [] rfl (by omega) (by simp) (fun l hl => by cases hl)
    obtain ⟨L2, g1, g2, g3⟩ := depths_both _ 0 L1 0 rfl (by omega) h3 (by omega) h4
    refine ⟨L2, ?_, ?_, g3⟩
    · have hcode : impl_prog_code_v0 ⟨p, hs⟩ ((n : Nat) : Int) = some (m.code, ⟨p, hs⟩) := by
        unfold impl_prog_code_v0
        rw [idx_nat]
        simp only [hm, Option.bind_some, Int.toNat_natCast, set_same hm]
      unfold impl_Loops
      exact Ev.bind k1 (Ev.cf rfl (Ev.bind (implDoms hF hh o1) (Ev.bind (Ev.const hcode) (Ev.bind h2 (Ev.bind g2 Ev.pure)))))
    · unfold spec_Loops
      exact Ev.bind s1 (Ev.cf rfl (Ev.bind t1 (Ev.bind (specDoms ha hp hF hr o1) (Ev.bind h1 (Ev.bind g1 Ev.pure)))))
  · have e1 : ok = false := by cases ok with | false => rfl | true => exact absurd (k2.1 rfl) c
    have e2 : ok2 = false := by cases ok2 with | false => rfl | true => exact absurd (s2.1 rfl) c
    subst e1 e2
    refine ⟨[], ?_, ?_, by simp⟩
    · unfold impl_Loops
      exact Ev.bind k1 (Ev.ct rfl Ev.pure)
    · unfold spec_Loops
      exact Ev.bind s1 (Ev.ct rfl Ev.pure)

end Go.Proofs.Ytdlaplgofgklnaa
namespace Go.Proofs.Ytdlaplgofgklnaa
open Go.Proofs Go.Proofs.Ytdlaplgofgklnaa.L
set_option linter.unusedVariables false
set_option linter.unusedSimpArgs false

theorem eqLoop_same (x : GI3) : laws_eqLoop x x = some true := by simp [laws_eqLoop]
theorem eqLoopS_l (l : List GI3) (hn : l.length < 4611686018427387904) : ∀ (d i : Nat), l.length - i = d → i ≤ l.length → Ev (fun k => laws_eqLoopS.l1 k l l (i : Int)) (.inr ()) := by
  intro d
  induction d with
  | zero =>
    intro i hd hi
    refine Ev.succ ?_
    simp only [laws_eqLoopS.l1]
    exact Ev.cf (df (by omega)) Ev.pure
  | succ d ih =>
    intro i hd hi
    obtain ⟨m, hm⟩ := list_get (show i < l.length by omega)
    refine Ev.succ ?_
    simp only [laws_eqLoopS.l1]
    refine Ev.ct (dt (by omega)) (Ev.idx hm (Ev.idx hm (Ev.bind (Ev.const (eqLoop_same m)) (Ev.cf (by simp) ?_))))
    rw [wrap_nat (by omega)]
    exact ih (i + 1) (by omega) (by omega)
theorem eqLoopS_ev (l : List GI3) (hn : l.length < 4611686018427387904) : Ev (fun k => laws_eqLoopS k l l) true := by
  unfold laws_eqLoopS
  refine Ev.cf (by simp) (Ev.bind (eqLoopS_l l hn _ 0 rfl (by omega)) Ev.pure)

/-- The mark at a place. -/
def mkLoop (n : Nat) : GI3 := ⟨(n : Int), ((n + 1 : Nat) : Int), ((n + 2 : Nat) : Int)⟩
theorem markLoopS_l : ∀ (d i : Nat) (l : List GI3) (n : Nat), l.length - i = d → i ≤ l.length → n + 3 * l.length < 4611686018427387000 → (∀ j, j < i → l[j]? = some (mkLoop (n + 3 * j))) →
    ∃ l', Ev (fun k => laws_markLoopS.l1 k l ((n + 3 * i : Nat) : Int) (i : Int)) (l', ((n + 3 * l.length : Nat) : Int)) ∧ l'.length = l.length ∧ ∀ j, j < l.length → l'[j]? = some (mkLoop (n + 3 * j)) := by
  intro d
  induction d with
  | zero =>
    intro i l n hd hi hn hp
    have : i = l.length := by omega
    subst this
    refine ⟨l, ?_, rfl, hp⟩
    refine Ev.succ ?_
    simp only [laws_markLoopS.l1]
    exact Ev.cf (df (by omega)) Ev.pure
  | succ d ih =>
    intro i l n hd hi hn hp
    obtain ⟨m, hm⟩ := list_get (show i < l.length by omega)
    obtain ⟨l', h1, h2, h3⟩ := ih (i + 1) (l.set i (mkLoop (n + 3 * i))) n (by simp; omega) (by simp; omega) (by simpa using hn) (by
      intro j hj
      by_cases e : j = i
      · subst e; rw [List.getElem?_set_self (by omega)]
      · rw [List.getElem?_set_ne (fun h => e h.symm)]; exact hp j (by omega))
    rw [List.length_set] at h1 h2 h3
    refine ⟨l', ?_, h2, h3⟩
    refine Ev.succ ?_
    simp only [laws_markLoopS.l1]
    refine Ev.ct (dt (by omega)) (Ev.idx hm ?_)
    rw [wrap_nat (show i < _ by omega), wrap_nat (show n + 3 * i < _ by omega), wrap_nat (show n + 3 * i + 1 < _ by omega), wrap_nat (show n + 3 * i + 1 + 1 < _ by omega), Int.toNat_natCast]
    exact h1
theorem heldLoopS_l (l : List GI3) (n : Nat) (hn : n + 3 * l.length < 4611686018427387000) (hp : ∀ j, j < l.length → l[j]? = some (mkLoop (n + 3 * j))) : ∀ (d i : Nat), l.length - i = d → i ≤ l.length →
    Ev (fun k => laws_heldLoopS.l1 k l ((n + 3 * i : Nat) : Int) (i : Int)) (.inr ((n + 3 * l.length : Nat) : Int)) := by
  intro d
  induction d with
  | zero =>
    intro i hd hi
    have : i = l.length := by omega
    subst this
    refine Ev.succ ?_
    simp only [laws_heldLoopS.l1]
    exact Ev.cf (df (by omega)) Ev.pure
  | succ d ih =>
    intro i hd hi
    have := ih (i + 1) (by omega) (by omega)
    refine Ev.succ ?_
    simp only [laws_heldLoopS.l1]
    rw [wrap_nat (show i < _ by omega), wrap_nat (show n + 3 * i < _ by omega), wrap_nat (show n + 3 * i + 1 < _ by omega), wrap_nat (show n + 3 * i + 1 + 1 < _ by omega)]
    exact Ev.ct (dt (by omega)) (Ev.idx (hp i (by omega)) (Ev.cf (by simp [mkLoop]) (Ev.cf (by simp [mkLoop]) (Ev.cf (by simp [mkLoop]; omega) this))))
theorem markLoop_held (l : List GI3) (hl : l.length ≤ 1000000) : ∃ l', Ev (fun k => laws_markLoopS k l 1) (((1 + 3 * l.length : Nat) : Int), l') ∧ l'.length = l.length ∧ Ev (fun k => laws_heldLoopS k l' 1) ((1 + 3 * l.length : Nat) : Int) := by
  obtain ⟨l', h1, h2, h3⟩ := markLoopS_l l.length 0 l 1 (by omega) (by omega) (by omega) (fun j hj => by omega)
  have h4 := heldLoopS_l l' 1 (by omega) (fun j hj => h3 j (by omega)) _ 0 rfl (by omega)
  rw [h2] at h4
  exact ⟨l', Ev.bind h1 Ev.pure, h2, Ev.bind h4 Ev.pure⟩

/-- The law. -/
theorem law_loops (p : GProgram) (f : Int) (ha : Args64 p) (h1 : p.funcs.length ≤ 9223372036854775807) (h2 : ∀ m ∈ p.funcs, m.code.length ≤ 9223372036854775807) : Ev (fun k => laws_FnExactLoops k p f) true := by
  obtain ⟨t, ht, hcase⟩ := szProgram_ev p h1 h2
  rcases hcase with h | ⟨h, hS⟩
  · unfold laws_FnExactLoops
    exact Ev.bind ht (Ev.ct (dt h) Ev.pure)
  · obtain ⟨l, p1, p2, p3⟩ := loops_both ha hS.funcs f
    obtain ⟨mk, n', m1, m2⟩ := markProgram_ev hS
    obtain ⟨l', m3, m4, m5⟩ := markLoop_held l (by omega)
    have ha1 : Ev (fun k => laws_FnExactLoops.a1 k p.funcs l l f ((n' : Nat) : Int)) (.inr (p.funcs, l, l, f)) := by
      unfold laws_FnExactLoops.a1
      exact Ev.cf (df (by omega)) (Ev.bind (eqLoopS_ev l (by omega)) (Ev.cf rfl Ev.pure))
    unfold laws_FnExactLoops
    refine Ev.bind ht (Ev.cf (df (by omega)) (Ev.bind (toProgram_ev hS) (Ev.bind p2 (Ev.bind (toProgram_ev hS) (Ev.bind p1 (Ev.bind (eqLoopS_ev l (by omega)) (Ev.cf rfl (Ev.bind (toProgram_ev hS) (Ev.bind (eqProgram_ev hS) (Ev.cf rfl (Ev.bind m1 (Ev.gd m2 (Ev.bind ha1 ?_)))))))))))))
    simp only [Sum.elim_inr]
    refine Ev.bind m3 (Ev.gd m4 (Ev.bind m5 (Ev.cf (df (by omega)) (Ev.cf (by simp) (Ev.bind (toProgram_ev (p := p) hS) (Ev.bind p1 (Ev.bind (eqLoopS_ev l (by omega)) (Ev.cf rfl (Ev.bind m5 (Ev.cf (df (by omega)) (Ev.cf (by simp) Ev.pure)))))))))))

end Go.Proofs.Ytdlaplgofgklnaa
namespace Go.Proofs.Ytdlaplgofgklnaa
open Go.Proofs Go.Proofs.Ytdlaplgofgklnaa.L
set_option maxHeartbeats 1000000
set_option linter.unusedSimpArgs false
set_option linter.unusedVariables false
open Go.ChangeShapes Go.WideShapes Go.RowKit
set_option maxRecDepth 100000

def GI2.ok (x : GI2) : Prop := L.i64 x.a ∧ L.i64 x.b
def GFunc.ok (x : GFunc) : Prop := L.i64 x.args ∧ L.i64 x.locals ∧ (x.code.length ≤ 9223372036854775807 ∧ ∀ z ∈ x.code, z.ok)
def GProgram.ok (x : GProgram) : Prop := (x.funcs.length ≤ 9223372036854775807 ∧ ∀ z ∈ x.funcs, z.ok)
theorem shp_t159 (m : Nat) (ds : List D) (h : Shp Try.prog m 159 ds) : ∃ x : GI2, ds = GI2.cells x ∧ x.ok := by
  obtain ⟨k, dss, rfl, h0⟩ := L.shp_struct Try.underlying159 h
  cases h0 with
  | cons g0 h1 =>
    cases h1 with
    | cons g1 h2 =>
      cases h2
      obtain ⟨z0, rfl, w0⟩ := L.shp_i64 Try.underlying2 g0
      obtain ⟨z1, rfl, w1⟩ := L.shp_i64 Try.underlying2 g1
      exact ⟨⟨z0, z1⟩, rfl, w0, w1⟩
theorem el_t159 (m : Nat) (ds : List D) (h : Shp Try.prog m 159 ds) : ∃ z : GI2, ds = GI2.cells z ∧ z.ok := by
  obtain ⟨z0, e, w0⟩ := shp_t159 _ _ h
  exact ⟨z0, e, w0⟩
theorem shp_t103 (m : Nat) (ds : List D) (h : Shp Try.prog m 103 ds) : ∃ x : GFunc, ds = (GFunc.cells .bor) x ∧ x.ok := by
  obtain ⟨k, dss, rfl, h0⟩ := L.shp_struct Try.underlying103 h
  cases h0 with
  | cons g0 h1 =>
    cases h1 with
    | cons g1 h2 =>
      cases h2 with
      | cons g2 h3 =>
        cases h3
        obtain ⟨z0, rfl, w0⟩ := L.shp_i64 Try.underlying2 g0
        obtain ⟨z1, rfl, w1⟩ := L.shp_i64 Try.underlying2 g1
        obtain ⟨z2, rfl, wl2, wo2⟩ := L.shp_slice (s := 2) (f := GI2.cells) (ok := fun z => z.ok) Try.underlying101 (by kernel_rfl) (fun k ds h => el_t159 k ds h) g2
        exact ⟨⟨z0, z1, z2⟩, rfl, w0, w1, ⟨wl2, wo2⟩⟩
theorem el_t103 (m : Nat) (ds : List D) (h : Shp Try.prog m 103 ds) : ∃ z : GFunc, ds = (GFunc.cells .bor) z ∧ z.ok := by
  obtain ⟨z0, e, w0⟩ := shp_t103 _ _ h
  exact ⟨z0, e, w0⟩
theorem shp_t24 (m : Nat) (ds : List D) (h : Shp Try.prog m 24 ds) : ∃ x : GProgram, ds = (GProgram.cells .bor) x ∧ x.ok := by
  obtain ⟨k, dss, rfl, h0⟩ := L.shp_struct Try.underlying24 h
  cases h0 with
  | cons g0 h1 =>
    cases h1
    obtain ⟨z0, rfl, wl0, wo0⟩ := L.shp_slice (s := 3) (f := (GFunc.cells .bor)) (ok := fun z => z.ok) Try.underlying22 (by kernel_rfl) (fun k ds h => el_t103 k ds h) g0
    exact ⟨⟨z0⟩, rfl, ⟨wl0, wo0⟩⟩
theorem args64_of {p : GProgram} (h : p.ok) : Args64 p := fun f hf => (h.2 f hf).1
theorem codes_of {p : GProgram} (h : p.ok) : ∀ m ∈ p.funcs, m.code.length ≤ 9223372036854775807 := fun f hf => (h.2 f hf).2.2.1

theorem Try.own : ownKnob Try.prog.godebug = none := by kernel_rfl
theorem Try.laidOut : laidOutB Try.prog = true := by kernel_rfl

theorem fnExactLoops_con (xs : List V) (hs : L.All2 (ShpV Try.prog 12) Try.f6.params.toList xs) : Con Try.prog 6 xs [] (V.bool true) [] := by
  rw [Try.params6] at hs
  cases hs with
  | cons s0 t0 =>
    cases t0 with
    | cons s1 t1 =>
      cases t1
      obtain ⟨ds0, rfl, q0⟩ := L.shpV_agg Try.underlying24 s0
      obtain ⟨p0, rfl, k0⟩ := shp_t24 _ _ q0
      obtain ⟨p1, rfl, k1⟩ := L.shpV_i64 Try.underlying2 s1
      obtain ⟨k, hk⟩ := (law_loops p0 p1 (args64_of k0) k0.1 (codes_of k0)).ex
      exact c_laws_FnExactLoops hk

theorem fnExactLoops_read : ∀ t ∈ Try.f6.params.toList, Try.prog.readableRec t = true ∧ t < Try.prog.types.size := by
  rw [Try.params6]
  intro t ht
  simp only [List.mem_cons, List.not_mem_nil, or_false] at ht
  rcases ht with rfl | rfl
  all_goals exact ⟨by kernel_rfl, of_decide_eq_true (by kernel_rfl)⟩
theorem fnExactLoops_plain : ∀ t ∈ Try.f6.params.toList, plainT Try.prog 12 t = true := by
  rw [Try.params6]
  intro t ht
  simp only [List.mem_cons, List.not_mem_nil, or_false] at ht
  rcases ht with rfl | rfl
  all_goals kernel_rfl

theorem fnExactLoops_lifted (os : Os) (started : os.Started) (H : Type) (enc : TypeId × Value → H) :
    ReturnsInHanded {} Try.checked os 6 .any (Rows.fnExactLoopsSpec.pre6 enc Try.prog Try.f6 Rows.fnExactLoopsRow.domain false) (Rows.fnExactLoopsSpec.post enc Try.prog Try.f6 false true false false) := by
  refine returnsInHanded_of_change (C := Try.checked) Try.own started (by kernel_rfl) Try.func6
    (ChangeSpec.witness6 (enc := enc) (C := Try.checked) false ⟨#[], #[.agg #[.slice none 0 0], .int .i64 0], []⟩ 8 (by kernel_rfl) (by kernel_rfl) (by kernel_rfl) (by kernel_rfl)) ?_
  intro W base args ds gs before hval hW hcnd _
  obtain ⟨p, q, hA0, -⟩ := id hW
  have hB0 : DataW.TrodAll enc Try.prog W 0 (fun _ => true) true Try.f6.params.toList args.toList ds p := hA0
  rw [Try.params6] at hB0
  obtain ⟨v0, vs0, d0, ds0, pa0, pb0, -, rfl, -, -, hB1⟩ := trodAll_cons hB0
  obtain ⟨v1, vs1, d1, ds1, pa1, pb1, -, rfl, -, -, hB2⟩ := trodAll_cons hB1
  obtain ⟨-, rfl, -⟩ := trodAll_nil hB2
  exact row_contract Try.laidOut fnExactLoops_con fnExactLoops_plain fnExactLoops_read rfl rfl Try.underlying4 rfl hval hW

theorem fnExactLoops_holds : Rows.FnExactLoopsSaid :=
  OpenClaim.holds_of_wide 6 Try.f6 rfl rfl rfl rfl rfl rfl rfl ⟨rfl, rfl, rfl, rfl, rfl⟩ rfl rfl rfl rfl rfl (by kernel_rfl) Try.func6 (by kernel_rfl)
    (of_decide_eq_true (by kernel_rfl)) (by unfold Func.isWrapper; first | (rw [if_pos (by decide +kernel)]; kernel_rfl) | (rw [if_neg (by decide +kernel)]; exact ⟨rfl, rfl⟩))
    (fun os started H enc _ => fnExactLoops_lifted os started H enc)

end Go.Proofs.Ytdlaplgofgklnaa
