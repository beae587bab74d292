/- WHAT IS PROVED: code, walked over an abstract state. Conditions: none. -/
import Derived.Test.YtdoboiiilcgbnaaL21
namespace Go.Proofs.Ytdoboiiilcgbnaa.L
set_option linter.unusedVariables false
set_option linter.unusedSimpArgs false

/-- Steps that the model does not see: a state that tells the same. -/
def Gh (st : SL) (n : Nat) (K : SL → Nat → Prop) : Prop :=
  ∀ (Γ : Ctx) (tm : Array Value) (w : World), Sat Γ (· < n) (lk st) tm w → ∃ st' n', n ≤ n' ∧ K st' n' ∧ Sat Γ (· < n') (lk st') tm w

def seqQ (Q : Exit → SL → Nat → Prop) (K : SL → Nat → Prop) : Exit → SL → Nat → Prop
  | .normal, st, n => K st n
  | e, st, n => Q e st n

def blockQ (Q : Exit → SL → Nat → Prop) (id : Nat) : Exit → SL → Nat → Prop
  | .exit id', st, n => if id' = id then Q .normal st n else Q (.exit id') st n
  | e, st, n => Q e st n

def condW (c : Operand) (st : SL) (x y : SL → Prop) : Prop := match c with
  | .tmp t => match lk st (.s t) with
    | some (.v (.d (.p (.bool b)))) => (b = true → x ((.s t, some (.v (.d (.p (.bool true))))) :: st)) ∧ (b = false → y ((.s t, some (.v (.d (.p (.bool false))))) :: st))
    | _ => False
  | .const (.bool b) => if b then x st else y st
  | _ => False

/-- An order-free region: for the time being by its own law. -/
def DrawW (P : Program) (T : Nat) (ops : Array Oper) (st : SL) (n : Nat) (K : SL → Nat → Prop) : Prop :=
  ∀ (Γ : Ctx) (a : Act) (w : World) (Q : Exit → Act → World → Prop), a.tmps.size = T → a.defers = [] → Sat Γ (· < n) (lk st) a.tmps w →
    (∀ st' n' a' w', n ≤ n' → K st' n' → a'.tmps.size = T → a'.defers = [] → Sat Γ (· < n') (lk st') a'.tmps w' → Q .normal a' w') → ∀ t, wpOps P ops Q (Region.schedule (P.follows .mixedOrders) ops t) a w

/-- All that a state names is below a bound. -/
def slN (b : Nat) (st : SL) : Prop := ∀ r c, lk st r = some c → c.inN (· < b) ∧ ∀ i, r = .r i → i < b

theorem sat_shrink {Γ : Ctx} {n b : Nat} {st : SL} {tm : Array Value} {w : World} (h : Sat Γ (· < n) (lk st) tm w) (hb : Γ.k ≤ b) (hs : slN b st) : Sat Γ (· < b) (lk st) tm w := by
  obtain ⟨Z, B, ρ, F, h⟩ := h
  refine ⟨Z, B, ρ, F, ?_, ?_, ⟨h.pend.1, trivial⟩, h.dead, h.nodup, h.disj, h.own, h.zB, h.zone, h.zoneOld, h.zOld, h.zZ, h.zBB, h.frame, h.grow, h.rho, fun i hi => Nat.lt_of_lt_of_le hi hb⟩
  · intro s c hc
    obtain ⟨h1, v, rfl, h2, _⟩ := h.slot s c hc
    exact ⟨h1, v, rfl, h2, (hs _ _ hc).1⟩
  · intro r c hc
    obtain ⟨h1, h2, _⟩ := h.obj r c hc
    exact ⟨(hs _ _ hc).2 r rfl, h2, (hs _ _ hc).1⟩

/-- The state at a loop's head, under names below a bound. -/
def Hd (n : Nat) (J : SL → Nat → Prop) (st : SL) (_ : Nat) : Prop := ∃ nI, n ≤ nI ∧ slN nI st ∧ J st nI

def aw (P : Program) (T : Nat) : Code → SL → Nat → (Exit → SL → Nat → Prop) → Prop
  | .skip, st, n, Q => Q .normal st n
  | .region _ ops false, st, n, Q => regW P T ops ops.toList st n (Q .normal)
  | .region _ ops true, st, n, Q => DrawW P T ops st n (Q .normal)
  | .seq a b, st, n, Q => aw P T a st n (seqQ Q fun st n => aw P T b st n Q)
  | .cond c a b, st, n, Q => condW c st (fun st => aw P T a st n Q) (fun st => aw P T b st n Q)
  | .block id c, st, n, Q => aw P T c st n (blockQ Q id)
  | .exit id, st, n, Q => Q (.exit id) st n
  | .ret, st, n, Q => Q .ret st n
  | .loop c, st, n, Q => ∃ I : Nat → SL → Nat → Prop, (∃ m, Gh st n (Hd n (I m))) ∧ ∀ m st' n', I m st' n' → aw P T c st' n' (seqQ Q fun st1 n1 => Gh st1 n1 (Hd n fun st2 n2 => ∃ m', m' < m ∧ I m' st2 n2))
  | _, _, _, _ => False

/-- What code does, over an abstract state. -/
def AWp (P : Program) (T : Nat) (c : Code) (st : SL) (n : Nat) (Q : Exit → SL → Nat → Prop) : Prop :=
  ∀ (Γ : Ctx) (a : Act) (w : World), a.tmps.size = T → a.defers = [] → Sat Γ (· < n) (lk st) a.tmps w →
    c.wp P (fun e a' w' => a'.tmps.size = T ∧ a'.defers = [] ∧ ∃ st' n', n ≤ n' ∧ Q e st' n' ∧ Sat Γ (· < n') (lk st') a'.tmps w') a w

theorem Sat.drew {Γ : Ctx} {N : Nat → Prop} {st : St} {tm : Array Value} {w : World} (h : Sat Γ N st tm w) : Sat Γ N st tm { w with drawn := w.drawn + 1 } := by
  obtain ⟨Z, B, ρ, F, h⟩ := h
  have := h.drew
  simp only [World.drew] at this
  exact ⟨Z, B, ρ, F, this⟩

theorem aw_sound {P : Program} {T : Nat} : ∀ (c : Code) (st : SL) (n : Nat) (Q : Exit → SL → Nat → Prop), aw P T c st n Q → AWp P T c st n Q
  | .skip, st, n, Q, h => fun Γ a w hs hd hsat => wp_skip ⟨hs, hd, st, n, Nat.le_refl _, h, hsat⟩
  | .region id ops false, st, n, Q, h => fun Γ a w hs hd hsat => by
    simp only [aw] at h
    refine wp_region ?_
    have := reg_sound (Γ := Γ) (Q := fun e a' w' => a'.tmps.size = T ∧ a'.defers = [] ∧ ∃ st' n', n ≤ n' ∧ Q e st' n' ∧ Sat Γ (· < n') (lk st') a'.tmps w') ops.toList 0 st n (Q .normal) (by simp) h a w hs hd hsat
      (fun st' n' a' w' h1 h2 h3 h4 h5 => ⟨h3, h4, st', n', h1, h2, h5⟩)
    rw [List.range_eq_range']
    simpa using this
  | .region id ops true, st, n, Q, h => fun Γ a w hs hd hsat => by
    simp only [aw] at h
    refine wp_region_draw fun t => ?_
    exact h Γ a _ _ hs hd hsat.drew (fun st' n' a' w' h1 h2 h3 h4 h5 => ⟨h3, h4, st', n', h1, h2, h5⟩) t
  | .seq x y, st, n, Q, h => fun Γ a w hs hd hsat => by
    simp only [aw] at h
    refine wp_seq (wp_mono (aw_sound x st n _ h Γ a w hs hd hsat) ?_)
    rintro e a' w' ⟨h1, h2, st', n', h3, h4, h5⟩
    cases e with
    | normal =>
      refine wp_mono (aw_sound y st' n' Q h4 Γ a' w' h1 h2 h5) ?_
      rintro e a2 w2 ⟨k1, k2, st2, n2, k3, k4, k5⟩
      exact ⟨k1, k2, st2, n2, by omega, k4, k5⟩
    | exit id => exact ⟨h1, h2, st', n', h3, h4, h5⟩
    | goto l => exact ⟨h1, h2, st', n', h3, h4, h5⟩
    | ret => exact ⟨h1, h2, st', n', h3, h4, h5⟩
    | panic ch => exact ⟨h1, h2, st', n', h3, h4, h5⟩
    | outgrown => exact ⟨h1, h2, st', n', h3, h4, h5⟩
  | .cond c x y, st, n, Q, h => fun Γ a w hs hd hsat => by
    simp only [aw, condW] at h
    split at h
    · split at h
      · rename_i t b hslot
        obtain ⟨hlt, hval⟩ := bool_of_slot hsat hslot
        refine wp_cond (t := b) (by simpa [Act.eval] using hval) ?_
        cases b with
        | true => exact aw_sound x _ n Q (h.1 rfl) Γ a w hs hd (by rw [lk_same hslot]; exact hsat)
        | false => exact aw_sound y _ n Q (h.2 rfl) Γ a w hs hd (by rw [lk_same hslot]; exact hsat)
      · exact h.elim
    · rename_i b
      refine wp_cond (t := b) rfl ?_
      cases b with
      | true => exact aw_sound x _ n Q (by simpa using h) Γ a w hs hd hsat
      | false => exact aw_sound y _ n Q (by simpa using h) Γ a w hs hd hsat
    · exact h.elim
  | .block id c, st, n, Q, h => fun Γ a w hs hd hsat => by
    simp only [aw] at h
    refine wp_block (wp_mono (aw_sound c st n _ h Γ a w hs hd hsat) ?_)
    rintro e a' w' ⟨h1, h2, st', n', h3, h4, h5⟩
    cases e with
    | exit id' =>
      simp only [Exit.inBlock]
      simp only [blockQ] at h4
      split
      · rename_i e
        rw [if_pos e] at h4
        exact ⟨h1, h2, st', n', h3, h4, h5⟩
      · rename_i e
        rw [if_neg e] at h4
        exact ⟨h1, h2, st', n', h3, h4, h5⟩
    | normal => exact ⟨h1, h2, st', n', h3, h4, h5⟩
    | goto l => exact ⟨h1, h2, st', n', h3, h4, h5⟩
    | ret => exact ⟨h1, h2, st', n', h3, h4, h5⟩
    | panic ch => exact ⟨h1, h2, st', n', h3, h4, h5⟩
    | outgrown => exact ⟨h1, h2, st', n', h3, h4, h5⟩
  | .exit id, st, n, Q, h => fun Γ a w hs hd hsat => wp_exit ⟨hs, hd, st, n, Nat.le_refl _, h, hsat⟩
  | .ret, st, n, Q, h => fun Γ a w hs hd hsat => wp_ret ⟨hs, hd, st, n, Nat.le_refl _, h, hsat⟩
  | .loop c, st, n, Q, h => fun Γ a w hs hd hsat => by
    simp only [aw] at h
    obtain ⟨I, ⟨m0, h0⟩, round⟩ := h
    have hk : Γ.k ≤ n := by
      obtain ⟨Z, B, ρ, F, hh⟩ := hsat
      rcases Nat.lt_or_ge n Γ.k with hlt | hge
      · exact absurd (hh.kN n hlt) (Nat.lt_irrefl n)
      · exact hge
    obtain ⟨st0, n0', l0', ⟨n0, l0, sl0, i0⟩, s0'⟩ := h0 Γ a.tmps w hsat
    have s0 := sat_shrink s0' (Nat.le_trans hk l0) sl0
    have key : ∀ m st1 n1 a w, n ≤ n1 → I m st1 n1 → a.tmps.size = T → a.defers = [] → Sat Γ (· < n1) (lk st1) a.tmps w →
        ∀ (b : Frame) (k : List Item) (cs : List Frame), ∃ e a' w', (a'.tmps.size = T ∧ a'.defers = [] ∧ ∃ st' n', n ≤ n' ∧ Q e st' n' ∧ Sat Γ (· < n') (lk st') a'.tmps w') ∧ Arrives P (lone (b.at a (.code c :: .inLoop c :: k)) cs w) b k cs e a' w' := by
      intro m
      induction m using Nat.strongRecOn with
      | _ m ih =>
        intro st1 n1 a w hn hI hs hd hsat b k cs
        obtain ⟨e, a₁, w₁, ⟨k1, k2, st', n', k3, k4, k5⟩, harr⟩ := aw_sound c st1 n1 _ (round m st1 n1 hI) Γ a w hs hd hsat b (.inLoop c :: k) cs
        cases e with
        | normal =>
          obtain ⟨st2, n2', l2', ⟨n2, l2, sl2, m', hm, i2⟩, s2'⟩ := k4 Γ a₁.tmps w₁ k5
          have s2 := sat_shrink s2' (Nat.le_trans hk l2) sl2
          obtain ⟨e₂, a₂, w₂, hq₂, harr₂⟩ := ih m' hm st2 n2 a₁ w₁ l2 i2 k1 k2 s2 b k cs
          exact ⟨e₂, a₂, w₂, hq₂, .of_steps (Steps.trans harr (.one step_inLoop)) harr₂⟩
        | exit id => exact ⟨_, a₁, w₁, ⟨k1, k2, st', n', by omega, k4, k5⟩, .pass (x := .inLoop c) rfl (fun _ _ => .inl (by simp)) harr⟩
        | goto l => exact ⟨_, a₁, w₁, ⟨k1, k2, st', n', by omega, k4, k5⟩, .pass (x := .inLoop c) rfl (fun _ _ => .inl (by simp)) harr⟩
        | ret => exact ⟨_, a₁, w₁, ⟨k1, k2, st', n', by omega, k4, k5⟩, .pass (x := .inLoop c) rfl (fun _ _ => .inl (by simp)) harr⟩
        | panic ch => exact ⟨_, a₁, w₁, ⟨k1, k2, st', n', by omega, k4, k5⟩, .pass (x := .inLoop c) rfl (fun _ _ => .inl (by simp)) harr⟩
        | outgrown => exact ⟨_, a₁, w₁, ⟨k1, k2, st', n', by omega, k4, k5⟩, .pass (x := .inLoop c) rfl (fun _ _ => .inl (by simp)) harr⟩
    intro b k cs
    obtain ⟨e, a', w', hq, harr⟩ := key m0 st0 n0 a w l0 i0 hs hd s0 b k cs
    exact ⟨e, a', w', hq, .of_steps (.one step_loop) harr⟩
  | .rangeFunc .., st, n, Q, h => by simp only [aw] at h
  | .scope .., st, n, Q, h => by simp only [aw] at h
  | .label .., st, n, Q, h => by simp only [aw] at h
  | .goto .., st, n, Q, h => by simp only [aw] at h
  | .refuse .., st, n, Q, h => by simp only [aw] at h

end Go.Proofs.Ytdoboiiilcgbnaa.L
