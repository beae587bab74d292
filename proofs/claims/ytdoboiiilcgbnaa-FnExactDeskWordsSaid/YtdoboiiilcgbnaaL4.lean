/- WHAT IS PROVED: when a state of the model is one that an abstract state tells; how it is kept when a part of it turns. Conditions: none. -/
import Derived.Test.YtdoboiiilcgbnaaL3
namespace Go.Proofs.Ytdoboiiilcgbnaa.L
set_option linter.unusedVariables false
set_option linter.unusedSimpArgs false

abbrev Ix := Option Res

structure SatF (Γ : Ctx) (Z B : Zone) (ρ : Names) (F : Ix → List Nat) (N : Nat → Prop) (st : St) (ps : List V) (vals : List Value) (X : List Nat) (tm : Array Value) (w : World) : Prop where
  slot : ∀ s c, st (.s s) = some c → s < tm.size ∧ ∃ v, c = .v v ∧ RelV Z B w ρ v (tm.getD s undef) (F (some (.s s))) ∧ v.inN N
  obj : ∀ r c, st (.r r) = some c → N r ∧ RelO Z B w ρ r c (F (some (.r r))) ∧ c.inN N
  pend : (∃ Fp, F none = Fp ++ X ∧ RelVs Z B w ρ ps vals Fp) ∧ V.inNs N ps
  dead : ∀ x, st x = none → F (some x) = []
  nodup : ∀ x, (F x).Nodup
  disj : ∀ x y, x ≠ y → ∀ b ∈ F x, b ∉ F y
  own : ∀ x, ∀ b ∈ F x, ¬ B b ∧ b < w.heap.size ∧ (Γ.M b ∨ Γ.w0.heap.size ≤ b)
  zB : ∀ b, Z b → B b
  zone : ∀ b, B b → b < w.heap.size
  zoneOld : ∀ b, B b → Γ.B b ∨ Γ.M b ∨ Γ.w0.heap.size ≤ b
  zOld : ∀ b, Z b → Γ.Z b ∨ Γ.M b ∨ Γ.w0.heap.size ≤ b
  zZ : ∀ b, Γ.Z b → Z b
  zBB : ∀ b, Γ.B b → B b
  frame : ∀ b, b < Γ.w0.heap.size → ¬ Γ.M b → w.heap[b]? = Γ.w0.heap[b]?
  grow : Grow Γ.w0 w
  rho : ∀ i, i < Γ.k → ρ i = Γ.ρ i
  kN : ∀ i, i < Γ.k → N i

def SatP (Γ : Ctx) (N : Nat → Prop) (st : St) (ps : List V) (vals : List Value) (tm : Array Value) (w : World) : Prop := ∃ Z B ρ F, SatF Γ Z B ρ F N st ps vals [] tm w

abbrev Sat (Γ : Ctx) (N : Nat → Prop) (st : St) (tm : Array Value) (w : World) : Prop := SatP Γ N st [] [] tm w

/-- THE GENERAL STEP: what turns lies in D; all else is kept. -/
theorem SatF.update {Γ : Ctx} {Z B : Zone} {ρ : Names} {F : Ix → List Nat} {N : Nat → Prop} {st : St} {ps : List V} {vals : List Value} {X : List Nat} {tm : Array Value} {w : World}
    (h : SatF Γ Z B ρ F N st ps vals X tm w) (D : Ix → Prop)
    {Z' B' : Zone} {ρ' : Names} {F' : Ix → List Nat} {N' : Nat → Prop} {st' : St} {ps' : List V} {vals' : List Value} {X' : List Nat} {tm' : Array Value} {w' : World}
    (hg : Grow w w') (hheap : ∀ b, b < w.heap.size → (∀ x, D x → b ∉ F x) → w'.heap[b]? = w.heap[b]?)
    (hst : ∀ x, ¬ D (some x) → st' x = st x) (hF : ∀ x, ¬ D x → F' x = F x)
    (htm : ∀ s, ¬ D (some (.s s)) → s < tm.size → s < tm'.size ∧ tm'.getD s undef = tm.getD s undef)
    (hp : ¬ D none → ps' = ps ∧ vals' = vals ∧ X' = X)
    (hN : ∀ r, N r → N' r) (hρ : ∀ r, N r → ρ' r = ρ r)
    (hZ : ∀ b, Z b → Z' b) (hB : ∀ b, B b → B' b) (hzB : ∀ b, Z' b → B' b)
    (hB' : ∀ b, B' b → B b ∨ (b < w'.heap.size ∧ ((∃ x, D x ∧ b ∈ F x) ∨ w.heap.size ≤ b)))
    (hZ' : ∀ b, Z' b → Z b ∨ (∃ x, D x ∧ b ∈ F x) ∨ w.heap.size ≤ b)
    (dslot : ∀ s c, D (some (.s s)) → st' (.s s) = some c → s < tm'.size ∧ ∃ v, c = .v v ∧ RelV Z' B' w' ρ' v (tm'.getD s undef) (F' (some (.s s))) ∧ v.inN N')
    (dobj : ∀ r c, D (some (.r r)) → st' (.r r) = some c → N' r ∧ RelO Z' B' w' ρ' r c (F' (some (.r r))) ∧ c.inN N')
    (dpend : D none → (∃ Fp, F' none = Fp ++ X' ∧ RelVs Z' B' w' ρ' ps' vals' Fp) ∧ V.inNs N' ps')
    (ddead : ∀ x, D (some x) → st' x = none → F' (some x) = [])
    (dnodup : ∀ x, D x → (F' x).Nodup)
    (ddisj : ∀ x y, D x → D y → x ≠ y → ∀ b ∈ F' x, b ∉ F' y)
    (dfrom : ∀ x, D x → ∀ b ∈ F' x, (∃ y, D y ∧ b ∈ F y) ∨ w.heap.size ≤ b)
    (dlt : ∀ x, D x → ∀ b ∈ F' x, b < w'.heap.size ∧ ¬ B' b) :
    SatF Γ Z' B' ρ' F' N' st' ps' vals' X' tm' w' := by
  have hkeep : ∀ x, ¬ D x → ∀ b ∈ F x, w'.heap[b]? = w.heap[b]? := by
    intro x hx b hb
    exact hheap b (h.own x b hb).2.1 (fun y hy hby => h.disj x y (fun e => hx (e ▸ hy)) b hb hby)
  have hzone : ∀ b, B b → w'.heap[b]? = w.heap[b]? := by
    intro b hb
    exact hheap b (h.zone b hb) (fun y _ hby => (h.own y b hby).1 hb)
  have hwF : ∀ x, ¬ D x → ∀ b ∈ F x, ¬ B' b := by
    intro x hx b hb hb'
    rcases hB' b hb' with h1 | ⟨_, ⟨y, hy, hby⟩ | h1⟩
    · exact (h.own x b hb).1 h1
    · exact h.disj x y (fun e => hx (e ▸ hy)) b hb hby
    · have := (h.own x b hb).2.1; omega
  have hM : ∀ b, ((∃ x, D x ∧ b ∈ F x) ∨ w.heap.size ≤ b) → Γ.M b ∨ Γ.w0.heap.size ≤ b := by
    rintro b (⟨x, _, hb⟩ | hb)
    · exact (h.own x b hb).2.2
    · exact .inr (Nat.le_trans h.grow.size hb)
  refine ⟨?_, ?_, ?_, ?_, ?_, ?_, ?_, hzB, ?_, ?_, ?_, ?_, ?_, ?_, h.grow.trans hg, ?_, ?_⟩
  · intro s c hs
    by_cases hd : D (some (.s s))
    · exact dslot s c hd hs
    · rw [hst _ hd] at hs
      obtain ⟨h1, v, rfl, h2, h3⟩ := h.slot s c hs
      obtain ⟨h4, h5⟩ := htm s hd h1
      refine ⟨h4, v, rfl, ?_, V.inN_mono hN v h3⟩
      rw [h5, hF _ hd]
      exact h2.mono ⟨h3, trivial⟩ hρ (hkeep _ hd) (fun b hb => hzone b (h.zB b hb)) hzone hZ hB hg.blk
  · intro r c hs
    by_cases hd : D (some (.r r))
    · exact dobj r c hd hs
    · rw [hst _ hd] at hs
      obtain ⟨h1, h2, h3⟩ := h.obj r c hs
      refine ⟨hN r h1, ?_, C.inN_mono hN c h3⟩
      rw [hF _ hd]
      have hk := hkeep _ hd
      generalize F (some (.r r)) = G at h2 hk
      cases h2 with
      | none h4 => exact .none ((hρ r h1).trans h4)
      | some h4 h5 h6 h7 h8 h9 =>
        exact .some ((hρ r h1).trans h4) (h5.mono (inNss_flatten h3) hρ (fun b hb => hk b (by simp [hb])) (fun b hb => hzone b (h.zB b hb)) hzone hZ hB hg.blk) h6
          (rangeAt_same (hk _ (by simp)) h7) (hg.blk _ _ h8) h9
  · by_cases hd : D none
    · exact dpend hd
    · obtain ⟨rfl, rfl, rfl⟩ := hp hd
      rw [hF _ hd]
      obtain ⟨⟨Fp, h1, h2⟩, h3⟩ := h.pend
      exact ⟨⟨Fp, h1, h2.mono h3 hρ (fun b hb => hkeep _ hd b (by rw [h1]; simp [hb])) (fun b hb => hzone b (h.zB b hb)) hzone hZ hB hg.blk⟩, V.inNs_mono hN _ h3⟩
  · intro x hx
    by_cases hd : D (some x)
    · exact ddead x hd hx
    · rw [hF _ hd]; rw [hst _ hd] at hx; exact h.dead x hx
  · intro x
    by_cases hd : D x
    · exact dnodup x hd
    · rw [hF _ hd]; exact h.nodup x
  · intro x y hne b hb hby
    by_cases hx : D x <;> by_cases hy : D y
    · exact ddisj x y hx hy hne b hb hby
    · rw [hF _ hy] at hby
      rcases dfrom x hx b hb with ⟨z, hz, hbz⟩ | h1
      · exact h.disj z y (fun e => hy (e ▸ hz)) b hbz hby
      · have := (h.own y b hby).2.1; omega
    · rw [hF _ hx] at hb
      rcases dfrom y hy b hby with ⟨z, hz, hbz⟩ | h1
      · exact h.disj z x (fun e => hx (e ▸ hz)) b hbz hb
      · have := (h.own x b hb).2.1; omega
    · rw [hF _ hx] at hb
      rw [hF _ hy] at hby
      exact h.disj x y hne b hb hby
  · intro x b hb
    by_cases hd : D x
    · obtain ⟨h1, h2⟩ := dlt x hd b hb
      exact ⟨h2, h1, hM b (dfrom x hd b hb)⟩
    · rw [hF _ hd] at hb
      obtain ⟨h1, h2, h3⟩ := h.own x b hb
      exact ⟨hwF x hd b hb, Nat.lt_of_lt_of_le h2 hg.size, h3⟩
  · intro b hb
    rcases hB' b hb with h1 | ⟨h1, _⟩
    · exact Nat.lt_of_lt_of_le (h.zone b h1) hg.size
    · exact h1
  · intro b hb
    rcases hB' b hb with h1 | ⟨_, h1⟩
    · exact h.zoneOld b h1
    · exact .inr (hM b h1)
  · intro b hb
    rcases hZ' b hb with h1 | h1
    · exact h.zOld b h1
    · exact .inr (hM b h1)
  · exact fun b hb => hZ b (h.zZ b hb)
  · exact fun b hb => hB b (h.zBB b hb)
  · intro b hb hm
    rw [← h.frame b hb hm]
    refine hheap b (Nat.lt_of_lt_of_le hb h.grow.size) (fun x _ hbx => ?_)
    rcases (h.own x b hbx).2.2 with h1 | h1
    · exact hm h1
    · omega
  · intro i hi
    rw [hρ i (h.kN i hi)]
    exact h.rho i hi
  · exact fun i hi => hN i (h.kN i hi)

theorem nodup_flatMap {F : Ix → List Nat} : ∀ {xs : List Ix}, xs.Nodup → (∀ x ∈ xs, (F x).Nodup) → (∀ x ∈ xs, ∀ y ∈ xs, x ≠ y → ∀ b ∈ F x, b ∉ F y) → (xs.flatMap F).Nodup
  | [], _, _, _ => by simp
  | x :: xs, h1, h2, h3 => by
    rw [List.flatMap_cons, List.nodup_append]
    rw [List.nodup_cons] at h1
    refine ⟨h2 x (by simp), nodup_flatMap h1.2 (fun y hy => h2 y (by simp [hy])) (fun y hy z hz => h3 y (by simp [hy]) z (by simp [hz])), ?_⟩
    intro a ha b hb e
    subst e
    obtain ⟨y, hy, hb⟩ := List.mem_flatMap.1 hb
    exact h3 x (by simp) y (by simp [hy]) (fun e => h1.1 (e ▸ hy)) a ha hb

theorem nodup_parts {F : Ix → List Nat} : ∀ {xs : List Ix}, (xs.flatMap F).Nodup → (∀ x ∈ xs, (F x).Nodup) ∧ (xs.Nodup → ∀ x ∈ xs, ∀ y ∈ xs, x ≠ y → ∀ b ∈ F x, b ∉ F y)
  | [], _ => ⟨by simp, by simp⟩
  | x :: xs, h => by
    rw [List.flatMap_cons, List.nodup_append] at h
    obtain ⟨h1, h2, h3⟩ := h
    obtain ⟨h4, h5⟩ := nodup_parts h2
    refine ⟨fun y hy => ?_, fun hn y hy z hz hne b hb hbz => ?_⟩
    · cases hy with
      | head => exact h1
      | tail _ hy => exact h4 y hy
    · rw [List.nodup_cons] at hn
      cases hy with
      | head =>
        cases hz with
        | head => exact hne rfl
        | tail _ hz => exact h3 b hb b (List.mem_flatMap.2 ⟨z, hz, hbz⟩) rfl
      | tail _ hy =>
        cases hz with
        | head => exact h3 b hbz b (List.mem_flatMap.2 ⟨y, hy, hb⟩) rfl
        | tail _ hz => exact h5 hn.2 y hy z hz hne b hb hbz

theorem SatF.nd {Γ : Ctx} {Z B : Zone} {ρ : Names} {F : Ix → List Nat} {N : Nat → Prop} {st : St} {ps : List V} {vals : List Value} {X : List Nat} {tm : Array Value} {w : World}
    (h : SatF Γ Z B ρ F N st ps vals X tm w) {xs : List Ix} (hx : xs.Nodup) : (xs.flatMap F).Nodup :=
  nodup_flatMap hx (fun x _ => h.nodup x) (fun x _ y _ => h.disj x y)

/-- The general step, what turns given as a list. -/
theorem SatF.step {Γ : Ctx} {Z B : Zone} {ρ : Names} {F : Ix → List Nat} {N : Nat → Prop} {st : St} {ps : List V} {vals : List Value} {X : List Nat} {tm : Array Value} {w : World}
    (h : SatF Γ Z B ρ F N st ps vals X tm w) (xs : List Ix) (hx : xs.Nodup)
    {Z' B' : Zone} {ρ' : Names} {F' : Ix → List Nat} {N' : Nat → Prop} {st' : St} {ps' : List V} {vals' : List Value} {X' : List Nat} {tm' : Array Value} {w' : World}
    (hg : Grow w w') (hheap : ∀ b, b < w.heap.size → b ∉ xs.flatMap F → w'.heap[b]? = w.heap[b]?)
    (hst : ∀ x, some x ∉ xs → st' x = st x) (hF : ∀ x, x ∉ xs → F' x = F x)
    (htm : ∀ s, some (.s s) ∉ xs → s < tm.size → s < tm'.size ∧ tm'.getD s undef = tm.getD s undef)
    (hp : none ∉ xs → ps' = ps ∧ vals' = vals ∧ X' = X)
    (hN : ∀ r, N r → N' r) (hρ : ∀ r, N r → ρ' r = ρ r)
    (hZ : ∀ b, Z b → Z' b) (hB : ∀ b, B b → B' b) (hzB : ∀ b, Z' b → B' b)
    (hB' : ∀ b, B' b → B b ∨ (b < w'.heap.size ∧ (b ∈ xs.flatMap F ∨ w.heap.size ≤ b)))
    (hZ' : ∀ b, Z' b → Z b ∨ b ∈ xs.flatMap F ∨ w.heap.size ≤ b)
    (dslot : ∀ s c, some (.s s) ∈ xs → st' (.s s) = some c → s < tm'.size ∧ ∃ v, c = .v v ∧ RelV Z' B' w' ρ' v (tm'.getD s undef) (F' (some (.s s))) ∧ v.inN N')
    (dobj : ∀ r c, some (.r r) ∈ xs → st' (.r r) = some c → N' r ∧ RelO Z' B' w' ρ' r c (F' (some (.r r))) ∧ c.inN N')
    (dpend : none ∈ xs → (∃ Fp, F' none = Fp ++ X' ∧ RelVs Z' B' w' ρ' ps' vals' Fp) ∧ V.inNs N' ps')
    (ddead : ∀ x, some x ∈ xs → st' x = none → F' (some x) = [])
    (dnd : (xs.flatMap F').Nodup)
    (dfrom : ∀ b ∈ xs.flatMap F', (b ∈ xs.flatMap F ∨ w.heap.size ≤ b) ∧ b < w'.heap.size ∧ ¬ B' b) :
    SatF Γ Z' B' ρ' F' N' st' ps' vals' X' tm' w' := by
  obtain ⟨p1, p2⟩ := nodup_parts dnd
  have e : ∀ b, (∃ x, x ∈ xs ∧ b ∈ F x) ↔ b ∈ xs.flatMap F := fun b => List.mem_flatMap.symm
  refine h.update (fun x => x ∈ xs) hg (fun b hb hn => hheap b hb (fun hm => ?_)) hst hF htm hp hN hρ hZ hB hzB ?_ ?_ dslot dobj dpend ddead p1 (fun x y hx' hy' => p2 hx x hx' y hy') ?_ ?_
  · obtain ⟨x, h1, h2⟩ := List.mem_flatMap.1 hm
    exact hn x h1 h2
  · intro b hb
    rw [e]
    exact hB' b hb
  · intro b hb
    rw [e]
    exact hZ' b hb
  · intro x hx' b hb
    rw [e]
    exact (dfrom b (List.mem_flatMap.2 ⟨x, hx', hb⟩)).1
  · intro x hx' b hb
    exact (dfrom b (List.mem_flatMap.2 ⟨x, hx', hb⟩)).2

/-- A step that turns no memory and no zone: only what is said of it. -/
theorem SatF.ghost {Γ : Ctx} {Z B : Zone} {ρ : Names} {F : Ix → List Nat} {N : Nat → Prop} {st : St} {ps : List V} {vals : List Value} {X : List Nat} {tm : Array Value} {w : World}
    (h : SatF Γ Z B ρ F N st ps vals X tm w) (xs : List Ix) (hx : xs.Nodup)
    {ρ' : Names} {F' : Ix → List Nat} {N' : Nat → Prop} {st' : St} {ps' : List V} {vals' : List Value} {X' : List Nat}
    (hst : ∀ x, some x ∉ xs → st' x = st x) (hF : ∀ x, x ∉ xs → F' x = F x)
    (hp : none ∉ xs → ps' = ps ∧ vals' = vals ∧ X' = X)
    (hN : ∀ r, N r → N' r) (hρ : ∀ r, N r → ρ' r = ρ r)
    (dslot : ∀ s c, some (.s s) ∈ xs → st' (.s s) = some c → s < tm.size ∧ ∃ v, c = .v v ∧ RelV Z B w ρ' v (tm.getD s undef) (F' (some (.s s))) ∧ v.inN N')
    (dobj : ∀ r c, some (.r r) ∈ xs → st' (.r r) = some c → N' r ∧ RelO Z B w ρ' r c (F' (some (.r r))) ∧ c.inN N')
    (dpend : none ∈ xs → (∃ Fp, F' none = Fp ++ X' ∧ RelVs Z B w ρ' ps' vals' Fp) ∧ V.inNs N' ps')
    (ddead : ∀ x, some x ∈ xs → st' x = none → F' (some x) = [])
    (dnd : (xs.flatMap F').Nodup) (dsub : ∀ b ∈ xs.flatMap F', b ∈ xs.flatMap F) :
    SatF Γ Z B ρ' F' N' st' ps' vals' X' tm w :=
  h.step xs hx (Grow.refl w) (fun _ _ _ => rfl) hst hF (fun _ _ hs => ⟨hs, rfl⟩) hp hN hρ (fun _ x => x) (fun _ x => x) h.zB (fun _ x => .inl x) (fun _ x => .inl x)
    dslot dobj dpend ddead dnd (fun b hb => ⟨.inl (dsub b hb), by
      obtain ⟨x, _, hbx⟩ := List.mem_flatMap.1 (dsub b hb)
      exact ⟨(h.own x b hbx).2.1, (h.own x b hbx).1⟩⟩)

end Go.Proofs.Ytdoboiiilcgbnaa.L
