/- WHAT IS PROVED: a function's contract out of its walk; the steps that the model does not see. Conditions: none. -/
import Derived.Test.YtdoboiiilcgbnaaL22
namespace Go.Proofs.Ytdoboiiilcgbnaa.L
set_option linter.unusedVariables false
set_option linter.unusedSimpArgs false

/-! ### Steps that the model does not see -/
theorem gh_refl {st : SL} {n : Nat} {K : SL → Nat → Prop} (h : K st n) : Gh st n K := fun Γ tm w hs => ⟨st, n, Nat.le_refl _, h, hs⟩

theorem sat_sub {Γ : Ctx} {N : Nat → Prop} {st st' : St} {ps : List V} {vals : List Value} {tm : Array Value} {w : World} (h : SatP Γ N st ps vals tm w) (hs : ∀ r c, st' r = some c → st r = some c) : SatP Γ N st' ps vals tm w := by
  classical
  obtain ⟨Z, B, ρ, F, h⟩ := h
  refine ⟨Z, B, ρ, fun x => match x with | none => F none | some r => if st' r = none then [] else F (some r), ?_⟩
  have hF : ∀ r c, st' r = some c → (if st' r = none then [] else F (some r)) = F (some r) := fun r c hc => by simp [hc]
  have hsub : ∀ (x : Ix) (b : Nat), b ∈ (match x with | none => F none | some r => if st' r = none then [] else F (some r)) → b ∈ F x := by
    intro x b hb
    cases x with
    | none => exact hb
    | some r =>
      simp only at hb
      split at hb
      · cases hb
      · exact hb
  refine ⟨?_, ?_, h.pend, ?_, ?_, ?_, ?_, h.zB, h.zone, h.zoneOld, h.zOld, h.zZ, h.zBB, h.frame, h.grow, h.rho, h.kN⟩
  · intro s c hc
    obtain ⟨h1, v, h2, h3, h4⟩ := h.slot s c (hs _ _ hc)
    exact ⟨h1, v, h2, by simp only [hF _ _ hc]; exact h3, h4⟩
  · intro r c hc
    obtain ⟨h1, h2, h3⟩ := h.obj r c (hs _ _ hc)
    exact ⟨h1, by simp only [hF _ _ hc]; exact h2, h3⟩
  · intro x hx
    simp [hx]
  · intro x
    cases x with
    | none => exact h.nodup none
    | some r =>
      simp only
      split
      · exact List.nodup_nil
      · exact h.nodup _
  · intro x y hne b hb hby
    exact h.disj x y hne b (hsub x b hb) (hsub y b hby)
  · intro x b hb
    exact h.own x b (hsub x b hb)

/-- A state that tells less. -/
theorem gh_sub {st st' : SL} {n : Nat} {K : SL → Nat → Prop} (hs : ∀ r c, lk st' r = some c → lk st r = some c) (h : K st' n) : Gh st n K :=
  fun Γ tm w hsat => ⟨st', n, Nat.le_refl _, h, sat_sub hsat hs⟩

theorem gh_trans {st : SL} {n : Nat} {K : SL → Nat → Prop} (h : Gh st n fun st n => Gh st n K) : Gh st n K := by
  intro Γ tm w hs
  obtain ⟨st1, n1, h1, h2, h3⟩ := h Γ tm w hs
  obtain ⟨st2, n2, k1, k2, k3⟩ := h2 Γ tm w h3
  exact ⟨st2, n2, by omega, k2, k3⟩

/-- What a slot names is taken in: it holds data. -/
def resSlotP (t : Nat) : Prog Unit := .get (.s t) fun c => match c with
  | .v x => .set (.s t) none ((match x with
    | .agg cs => (resRow cs).bind fun ds => .ret (V.agg (ds.map V.d))
    | x => (resV 7 x).bind fun d => .ret (V.d d)).bind fun v => .set (.s t) (some (.v v)) (.ret ()))
  | _ => .fail

/-- What a slot holds alone gets a name. -/
def nameSlotP (nm t : Nat) : Prog Unit := .get (.s t) fun c => match c with
  | .v x => .set (.s t) none ((nameAll nm x).bind fun v => .set (.s t) (some (.v v)) (.ret ()))
  | _ => .fail

section
variable {P : Program} {Γ : Ctx} {Z B : Zone} {ρ : Names} {F : Ix → List Nat} {N : Nat → Prop} {st st' : St} {ps : List V} {vals : List Value} {X : List Nat} {tm : Array Value} {w : World}

/-- A slot's value comes to hand. -/
theorem SatF.take {t : Nat} {v : V} (h : SatF Γ Z B ρ F N st ps vals X tm w) (hs : st (.s t) = some (.v v)) :
    t < tm.size ∧ ∃ F', SatF Γ Z B ρ F' N (upd st (.s t) none) (v :: ps) (tm.getD t undef :: vals) X tm w := by
  obtain ⟨h1, v', e, g1, g2⟩ := h.slot t _ hs
  cases e
  refine ⟨h1, ?_⟩
  obtain ⟨⟨Fp, p1, p2⟩, p3⟩ := h.pend
  have hnd := h.nd (xs := [none, some (.s t)]) (by simp)
  simp only [List.flatMap_cons, List.flatMap_nil, List.append_nil, p1] at hnd
  refine ⟨fun x => if x = none then (F (some (.s t)) ++ Fp) ++ X else if x = some (.s t) then [] else F x, ?_⟩
  refine h.step [none, some (.s t)] (by simp) (Grow.refl w) (fun _ _ _ => rfl) ?_ ?_ (fun _ _ hs => ⟨hs, rfl⟩) (by simp) (fun _ x => x) (fun _ _ => rfl) (fun _ x => x) (fun _ x => x) h.zB (fun _ x => .inl x) (fun _ x => .inl x) ?_ ?_ ?_ ?_ ?_ ?_
  · intro x hx
    simp only [List.mem_cons, reduceCtorEq, Option.some.injEq, List.not_mem_nil, or_false, false_or] at hx
    simp [upd, hx]
  · intro x hx
    simp only [List.mem_cons, List.not_mem_nil, or_false, not_or] at hx
    simp [hx.1, hx.2]
  · intro s c hs' hc
    simp only [List.mem_cons, reduceCtorEq, Option.some.injEq, Res.s.injEq, List.not_mem_nil, or_false, false_or] at hs'
    subst hs'
    simp [upd] at hc
  · intro r c hs'; simp at hs'
  · intro _
    exact ⟨⟨F (some (.s t)) ++ Fp, by simp, RelVs.append g1 p2⟩, g2, p3⟩
  · intro x hx hn
    simp only [List.mem_cons, reduceCtorEq, Option.some.injEq, List.not_mem_nil, or_false, false_or] at hx
    subst hx
    simp
  · simp only [List.flatMap_cons, List.flatMap_nil, List.append_nil, if_true, reduceCtorEq, if_false]
    rw [List.nodup_iff_count] at hnd ⊢; intro t; have hnd := hnd t; simp only [List.count_append, List.count_cons, List.count_nil] at hnd ⊢; omega
  · intro b hb
    simp only [List.flatMap_cons, List.flatMap_nil, List.append_nil, if_true, reduceCtorEq, if_false, List.mem_append] at hb
    have hm : b ∈ F none ∨ b ∈ F (some (.s t)) := by rw [p1]; simp only [List.mem_append]; grind
    refine ⟨.inl (by simpa using hm), ?_⟩
    rcases hm with hm | hm
    · exact ⟨(h.own none b hm).2.1, (h.own none b hm).1⟩
    · exact ⟨(h.own _ b hm).2.1, (h.own _ b hm).1⟩

theorem setget (tm : Array Value) (t : Nat) : tm.setIfInBounds t (tm.getD t undef) = tm := by
  apply Array.ext
  · simp
  · intro i h1 h2
    simp only [Array.size_setIfInBounds] at h1
    rw [Array.getElem_setIfInBounds]
    split
    · rename_i e
      subst e
      simp [Array.getD, h1]
    · rfl

/-- A row of cells is taken in, at hand. -/
theorem resRow_sound {vs : List V} {ds : List D} {R W : List Res} (hr : Run (resRow vs) st ds st' R W) (h : SatF Γ Z B ρ F N st (vs ++ ps) vals X tm w) :
    ds.length = vs.length ∧ ∃ F', SatF Γ Z B ρ F' N st' (ds.map V.d ++ ps) vals X tm w :=
  (res_sound 6).2.1 vs ds st st' R W [] ps vals X F hr h

theorem resAny_sound {x v : V} {R W : List Res} (hr : Run (match x with
    | .agg cs => (resRow cs).bind fun ds => .ret (V.agg (ds.map V.d))
    | x => (resV 7 x).bind fun d => .ret (V.d d)) st v st' R W) {val : Value} (h : SatF Γ Z B ρ F N st (x :: ps) (val :: vals) X tm w) :
    ∃ F', SatF Γ Z B ρ F' N st' (v :: ps) (val :: vals) X tm w := by
  split at hr
  · rename_i cs
    obtain ⟨ds, st1, R1, W1, R2, W2, r1, r2, -, -⟩ := hr.bind_inv
    cases r2
    obtain ⟨G, H, e, g1, g2, n1, n2⟩ := h.headF
    cases g1 with
    | agg t1 t0 t2 =>
      cases t2
      rename_i us FF
      obtain ⟨F1, _, h1⟩ := h.rehand (ps' := cs ++ ps) (vals' := us ++ vals) (X' := X) (Fp' := FF ++ H) (RelVs.append t1 g2) (by rw [inNs_append]; exact ⟨n1, n2⟩) (by rw [e]; simp) (by rw [e]; simp)
      obtain ⟨hl, F2, h2⟩ := resRow_sound r1 h1
      obtain ⟨Fa, Fm, Fc, e0, q1, q2, q3, m1, m2, m3⟩ := SatF.partsAt (pre := []) (mid := ds.map V.d) (ps := ps) (va := []) (vm := us) (vc := vals) h2 rfl (by rw [List.length_map, hl, ← t1.length])
      cases q1
      obtain ⟨F3, _, h3⟩ := h2.rehand (ps' := .agg (ds.map V.d) :: ps) (vals' := .agg us.toArray :: vals) (X' := X) (Fp' := Fm ++ Fc) (RelVs.agg q2 t0 q3) ⟨m2, m3⟩ (by rw [e0]; simp) (by rw [e0]; simp)
      exact ⟨F3, h3⟩
  · obtain ⟨d, st1, R1, W1, R2, W2, r1, r2, -, -⟩ := hr.bind_inv
    cases r2
    exact (res_sound 7).1 _ _ _ _ _ _ [] ps _ X F r1 h

end

theorem gh_resSlot (t : Nat) {st : SL} {n : Nat} {K : SL → Nat → Prop} (h : (resSlotP t).wp st [] [] fun _ st' _ _ => Gh st' n K) : Gh st n K := by
  obtain ⟨u, st', R', W', R2, W2, h1, h2, -, -⟩ := Prog.wp_run h
  refine gh_trans fun Γ tm w hsat => ⟨st', n, Nat.le_refl _, h2, ?_⟩
  obtain ⟨Z, B, ρ, F, hs⟩ := hsat
  unfold resSlotP at h1
  cases h1 with
  | @get _ _ _ _ c _ _ _ c1 c2 =>
    dsimp only at c2
    split at c2
    · cases c2 with
      | set c2 =>
        obtain ⟨v, st1, R1, W1, R2, W2, r1, r2, -, -⟩ := c2.bind_inv
        obtain ⟨hlt, F1, h1⟩ := hs.take c1
        obtain ⟨F2, h2⟩ := resAny_sound r1 h1
        generalize hfin : lk st' = fin at r2
        cases r2 with
        | set r2 =>
          cases r2
          obtain ⟨F3, h3⟩ := h2.put hlt
          rw [setget] at h3
          exact ⟨Z, B, ρ, F3, h3⟩
    · cases c2

theorem gh_nameSlot (t : Nat) {st : SL} {n : Nat} {K : SL → Nat → Prop} (h : (nameSlotP n t).wp st [] [] fun _ st' _ _ => Gh st' (n + 64) K) : Gh st n K := by
  obtain ⟨u, st', R', W', R2, W2, h1, h2, -, -⟩ := Prog.wp_run h
  refine gh_trans fun Γ tm w hsat => ⟨st', n + 64, by omega, h2, ?_⟩
  obtain ⟨Z, B, ρ, F, hs⟩ := hsat
  unfold nameSlotP at h1
  cases h1 with
  | @get _ _ _ _ c _ _ _ c1 c2 =>
    dsimp only at c2
    split at c2
    · cases c2 with
      | set c2 =>
        obtain ⟨v, st1, R1, W1, R2, W2, r1, r2, -, -⟩ := c2.bind_inv
        obtain ⟨hlt, F1, h1⟩ := hs.take c1
        obtain ⟨ρ', F2, h2⟩ := nameAll_sound r1 (fun r h1 h2 => by omega) h1
        generalize hfin : lk st' = fin at r2
        cases r2 with
        | set r2 =>
          cases r2
          obtain ⟨F3, h3⟩ := h2.put hlt
          rw [setget] at h3
          exact ⟨Z, B, ρ', F3, h3.weakN (fun r hr => by rcases hr with hr | hr <;> omega)⟩
    · cases c2

/-- What an object's cells name is taken in. -/
theorem gh_resObj (r : Nat) {st : SL} {n s : Nat} {xs : List (List V)} {K : SL → Nat → Prop} (hst : lk st (.r r) = some (.o s xs))
    (h : (resRows xs).wp ((.r r, none) :: st) [] [] fun ds st' _ W => .r r ∉ W ∧ Gh ((.r r, some (.o s (dd ds))) :: st') n K) : Gh st n K := by
  obtain ⟨ds, st', R', W', R2, W2, r1, ⟨h2, h3⟩, -, hW⟩ := Prog.wp_run h
  refine gh_trans fun Γ tm w hsat => ⟨_, n, Nat.le_refl _, h3, ?_⟩
  obtain ⟨Z, B, ρ, F, hs⟩ := hsat
  have hnW : Res.r r ∉ W' := fun hh => h2 (hW _ (.inl hh))
  rw [lk_cons] at r1
  obtain ⟨hN, hO, hin⟩ := hs.obj r _ hst
  have hst1 : lk st' (.r r) = none := by
    rw [r1.frame _ hnW]; simp [upd]
  rw [lk_cons]
  generalize hG : F (some (.r r)) = G at hO
  cases hO with
  | none t1 =>
    unfold resRows at r1
    simp only [resV.go] at r1
    generalize hfin : lk st' = fin at r1
    cases r1
    refine ⟨Z, B, ρ, F, ?_⟩
    have e : upd (upd (lk st) (.r r) none) (.r r) (some (.o s (dd []))) = lk st := by
      funext x
      simp only [upd]
      split
      · rename_i e; rw [e, hst]; rfl
      · rfl
    rw [e]
    exact hs
  | @some _ b o _ us FG hρ hrel hone hrange hblk huni =>
    obtain ⟨F1, f1, h1⟩ := hs.regroup (r := r) (ps' := xs.flatten ++ []) (vals' := us ++ []) (X' := [b]) (Fp' := FG ++ []) hG (RelVs.append hrel .nil)
      (by rw [inNs_append]; exact ⟨inNss_flatten hin, trivial⟩)
      (by intro hh; rw [List.nodup_iff_count] at hh ⊢; intro t; have hh := hh t; simp only [List.count_append, List.count_cons, List.count_nil] at hh ⊢; omega)
      (by intro x hx; simp only [List.mem_append, List.mem_cons] at hx ⊢; grind)
    obtain ⟨hmap, F2, h2⟩ := (res_sound 6).2.2 xs ds _ _ _ _ [] [] _ _ F1 r1 (by simpa using h1)
    have hfl : (dd ds).flatten = ds.flatten.map V.d := dd_flatten ds
    have hlen : ds.length = xs.length := by
      have := congrArg List.length hmap
      simpa using this
    have hul : us.length = ((dd ds).flatten).length := by
      rw [hfl]
      have := h2.lenPend
      simp only [List.length_append, List.length_map, List.length_nil, List.nil_append] at this ⊢
      omega
    obtain ⟨F3, h3⟩ := SatF.close (r := r) (s := s) (o := o) (xs := dd ds) (us := us) (vc := []) (ps := []) (X := []) (by rw [hfl]; simpa using h2)
      hul hN hst1 hρ hone hrange (by rw [dd_length, hlen]; exact hblk)
      (by
        intro x hx
        obtain ⟨y, hy, rfl⟩ := List.mem_map.1 hx
        rw [List.length_map]
        have : y.length ∈ ds.map List.length := List.mem_map_of_mem hy
        rw [hmap] at this
        obtain ⟨z, hz, e⟩ := List.mem_map.1 this
        rw [← e]; exact huni z hz)
      (inNss_iff.2 fun x hx => by
        obtain ⟨y, hy, rfl⟩ := List.mem_map.1 hx
        exact inNs_map_d _)
    exact ⟨Z, B, ρ, F3, h3⟩

end Go.Proofs.Ytdoboiiilcgbnaa.L
