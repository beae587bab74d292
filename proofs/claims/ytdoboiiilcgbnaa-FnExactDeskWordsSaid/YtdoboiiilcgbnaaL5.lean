/- WHAT IS PROVED: operands are fetched, new things get names, what is named is taken in: none of it turns the model's state. Conditions: none. -/
import Derived.Test.YtdoboiiilcgbnaaL4
namespace Go.Proofs.Ytdoboiiilcgbnaa.L
set_option linter.unusedVariables false
set_option linter.unusedSimpArgs false

theorem lin_D {Z B : Zone} {w : World} {ds : List D} {vs : List Value} {F : List Nat} (h : RelDs Z B w ds vs F) (hl : ∀ x ∈ ds, x.lin = false) : F = [] := by
  induction h with
  | nil => rfl
  | p _ _ ih => exact ih fun x hx => hl x (by simp [hx])
  | none _ ih => exact ih fun x hx => hl x (by simp [hx])
  | @row m s b o c xs us F ds vs G _ _ _ _ h5 _ _ _ _ ih =>
    have e := hl (.row m s xs) (by simp)
    have hm : m ≠ .own := by rintro rfl; simp [D.lin] at e
    have hf : m.foot b = [] := by cases m <;> simp_all [Md.foot]
    rw [hf, h5 hm, ih fun x hx => hl x (by simp [hx])]; rfl
  | @ptr m b o cs us F ds vs G _ _ _ _ h5 _ _ ih =>
    have e := hl (.ptr m cs) (by simp)
    have hm : m ≠ .own := by rintro rfl; simp [D.lin] at e
    have hf : m.foot b = [] := by cases m <;> simp_all [Md.foot]
    rw [hf, h5 hm, ih fun x hx => hl x (by simp [hx])]; rfl

theorem lin_V {Z B : Zone} {w : World} {ρ : Names} {ds : List V} {vs : List Value} {F : List Nat} (h : RelVs Z B w ρ ds vs F) (hl : V.linL ds = false) : F = [] := by
  induction h with
  | nil => rfl
  | d h1 _ ih =>
    simp only [V.linL, V.lin, Bool.or_eq_false_iff] at hl
    rw [lin_D h1 (by simp [hl.1]), ih hl.2]; rfl
  | sl _ _ ih => simp only [V.linL, V.lin, Bool.or_eq_false_iff] at hl; exact ih hl.2
  | mp _ _ ih => simp only [V.linL, V.lin, Bool.or_eq_false_iff] at hl; exact ih hl.2
  | agg _ _ _ ih1 ih2 => simp only [V.linL, V.lin, Bool.or_eq_false_iff] at hl; rw [ih1 hl.1, ih2 hl.2]; rfl
  | clo _ _ ih1 ih2 => simp only [V.linL, V.lin, Bool.or_eq_false_iff] at hl; rw [ih1 hl.1, ih2 hl.2]; rfl
  | tup _ _ ih1 ih2 => simp only [V.linL, V.lin, Bool.or_eq_false_iff] at hl; rw [ih1 hl.1, ih2 hl.2]; rfl
  | arr => simp [V.linL, V.lin] at hl

section
variable {Γ : Ctx} {Z B : Zone} {ρ : Names} {F : Ix → List Nat} {N : Nat → Prop} {st st' : St} {ps : List V} {vals : List Value} {X : List Nat} {tm : Array Value} {w : World}

/-- A value more that holds nothing alone. -/
theorem SatF.push (h : SatF Γ Z B ρ F N st ps vals X tm w) {v : V} {val : Value} (hv : RelV Z B w ρ v val []) (hn : v.inN N) :
    SatF Γ Z B ρ F N st (v :: ps) (val :: vals) X tm w := by
  obtain ⟨⟨Fp, h1, h2⟩, h3⟩ := h.pend
  refine h.ghost [none] (by simp) (fun _ _ => rfl) (fun _ _ => rfl) (by simp) (fun _ x => x) (fun _ _ => rfl) (by simp) (by simp) ?_ (by simp) (h.nd (by simp)) (fun _ hb => hb)
  exact fun _ => ⟨⟨Fp, h1, by simpa using RelVs.append hv h2⟩, hn, h3⟩

theorem fetch_sound {a : Act} {x : Operand} {v : V} {R W : List Res} (hr : Run (fetchP x) st v st' R W) (ha : a.tmps = tm) (h : SatF Γ Z B ρ F N st ps vals X tm w) :
    ∃ F', SatF Γ Z B ρ F' N st' (v :: ps) (a.eval x :: vals) X tm w := by
  subst ha
  cases x with
  | const c =>
    simp only [fetchP] at hr
    cases hr with
    | req h1 h2 =>
      cases h2
      exact ⟨F, h.push (.d (.p h1 .nil) .nil) trivial⟩
  | global g => simp only [fetchP] at hr; cases hr
  | func f =>
    simp only [fetchP] at hr
    cases hr
    exact ⟨F, h.push (.clo .nil .nil) trivial⟩
  | tmp t =>
    simp only [fetchP] at hr
    cases hr with
    | @get _ _ _ _ c _ _ _ h1 h2 =>
      obtain ⟨ht, y, rfl, h3, h4⟩ := h.slot t _ h1
      simp only at h2
      split at h2
      · rename_i hl
        cases h2 with
        | set h2 =>
          cases h2
          obtain ⟨⟨Fp, p1, p2⟩, p3⟩ := h.pend
          have hnd := h.nd (xs := [some (.s t), none]) (by simp)
          refine ⟨fun x => if x = none then F (some (.s t)) ++ F none else if x = some (.s t) then [] else F x, ?_⟩
          refine h.ghost [some (.s t), none] (by simp) ?_ ?_ (by simp) (fun _ x => x) (fun _ _ => rfl) ?_ ?_ ?_ ?_ ?_ ?_
          · intro x hx; simp only [List.mem_cons, Option.some.injEq, reduceCtorEq, List.not_mem_nil, or_false] at hx; simp [upd, hx]
          · intro x hx; simp only [List.mem_cons, List.not_mem_nil, or_false, not_or] at hx; simp [hx.1, hx.2]
          · intro s c hs hc
            simp only [List.mem_cons, Option.some.injEq, Res.s.injEq, reduceCtorEq, List.not_mem_nil, or_false] at hs
            subst hs
            simp [upd] at hc
          · intro r c hs hc; simp at hs
          · intro _
            refine ⟨⟨F (some (.s t)) ++ Fp, by simp [p1], ?_⟩, h4, p3⟩
            exact RelVs.append h3 p2
          · intro x hx _
            simp only [List.mem_cons, Option.some.injEq, reduceCtorEq, List.not_mem_nil, or_false] at hx
            simp [hx]
          · simpa using hnd
          · intro b hb; simpa using hb
      · rename_i hl
        cases h2
        refine ⟨F, h.push ?_ h4⟩
        have e : F (some (.s t)) = [] := lin_V h3 (by simp [V.linL, hl])
        rw [e] at h3
        exact h3

/-- The context form of a step on one value among those at hand. -/
theorem dd_flatten (xs : List (List D)) : (dd xs).flatten = xs.flatten.map V.d := by
  induction xs with
  | nil => rfl
  | cons x xs ih =>
    have : dd (x :: xs) = x.map V.d :: dd xs := rfl
    rw [this, List.flatten_cons, ih]; simp

theorem dd_length (xs : List (List D)) : (dd xs).length = xs.length := by simp [dd]

theorem inNs_map_d {N : Nat → Prop} : ∀ ds : List D, V.inNs N (ds.map V.d)
  | [] => trivial
  | d :: ds => ⟨trivial, inNs_map_d ds⟩

theorem inNss_dd {N : Nat → Prop} : ∀ xs : List (List D), V.inNss N (dd xs)
  | [] => trivial
  | x :: xs => ⟨inNs_map_d x, inNss_dd xs⟩

theorem RelVs.oneCell_map {ds : List D} {vs : List Value} {G : List Nat} (h : RelDs Z B w ds vs G) : ∀ v ∈ vs, v.oneCell' = true := h.one

/-- A new name: the object nm holds what one value at hand held. -/
theorem name_sound {nm : Nat} {v v' : V} {R W : List Res} {pre : List V} (hr : Run (nameP nm v) st v' st' R W) (hnm : ¬ N nm)
    (h : SatF Γ Z B ρ F N st (pre ++ v :: ps) vals X tm w) :
    ∃ ρ' F', (∀ r, r ≠ nm → ρ' r = ρ r) ∧ SatF Γ Z B ρ' F' (fun r => N r ∨ r = nm) st' (pre ++ v' :: ps) vals X tm w := by
  have hst : st (.r nm) = none := by
    cases hs : st (.r nm) with
    | none => rfl
    | some c => exact absurd (h.obj nm c hs).1 hnm
  have hidle : v' = v → st' = st → ∃ ρ' F', (∀ r, r ≠ nm → ρ' r = ρ r) ∧ SatF Γ Z B ρ' F' (fun r => N r ∨ r = nm) st' (pre ++ v' :: ps) vals X tm w := by
    rintro rfl rfl
    refine ⟨ρ, F, fun _ _ => rfl, ?_⟩
    exact h.ghost [] (by simp) (fun _ _ => rfl) (fun _ _ => rfl) (fun _ => ⟨rfl, rfl, rfl⟩) (fun _ x => .inl x) (fun _ _ => rfl) (by simp) (by simp) (by simp) (by simp) (by simp) (by simp)
  -- the named arms
  have key : ∀ (s : Nat) (xs : List (List V)) (a : Option Addr) (nv : V) (G : List Nat) (Fa Fc : List Nat) (va vc : List Value) (val : Value),
      v' = nv → st' = upd st (.r nm) (some (.o s xs)) → vals = va ++ val :: vc → F none = (Fa ++ (G ++ Fc)) ++ X →
      RelVs Z B w ρ pre va Fa → RelVs Z B w ρ ps vc Fc → V.inNs N pre → V.inNs N ps →
      (∀ ρ' : Names, ρ' nm = a → (∀ r, r ≠ nm → ρ' r = ρ r) → RelV Z B w ρ' nv val [] ∧ RelO Z B w ρ' nm (.o s xs) G) →
      nv.inN (fun r => N r ∨ r = nm) → V.inNss (fun r => N r ∨ r = nm) xs →
      ∃ ρ' F', (∀ r, r ≠ nm → ρ' r = ρ r) ∧ SatF Γ Z B ρ' F' (fun r => N r ∨ r = nm) st' (pre ++ v' :: ps) vals X tm w := by
    intro s xs a nv G Fa Fc va vc val e1 e2 e3 e4 k1 k2 k3 k4 k5 k6 k7
    subst e1; subst e2; subst e3
    let ρ' : Names := fun r => if r = nm then a else ρ r
    have hρ : ∀ r, N r → ρ' r = ρ r := fun r hNr => by
      have e : r ≠ nm := by rintro rfl; exact hnm hNr
      simp [ρ', e]
    obtain ⟨m1, m2⟩ := k5 ρ' (by simp [ρ']) (fun r hr => by simp [ρ', hr])
    have hnd := h.nd (xs := [none, some (.r nm)]) (by simp)
    have hd : F (some (.r nm)) = [] := h.dead _ hst
    refine ⟨ρ', fun x => if x = none then (Fa ++ Fc) ++ X else if x = some (.r nm) then G else F x, fun r hr => by simp [ρ', hr], ?_⟩
    refine h.ghost [none, some (.r nm)] (by simp) ?_ ?_ (by simp) (fun _ x => .inl x) hρ ?_ ?_ ?_ ?_ ?_ ?_
    · intro x hx
      simp only [List.mem_cons, reduceCtorEq, Option.some.injEq, List.not_mem_nil, or_false, false_or] at hx
      simp [upd, hx]
    · intro x hx
      simp only [List.mem_cons, List.not_mem_nil, or_false, not_or] at hx
      simp [hx.1, hx.2]
    · intro s c hs; simp at hs
    · intro r c hs hc
      simp only [List.mem_cons, reduceCtorEq, Option.some.injEq, Res.r.injEq, List.not_mem_nil, or_false, false_or] at hs
      subst hs
      simp [upd] at hc
      subst hc
      exact ⟨.inr rfl, by simpa using m2, k7⟩
    · intro _
      refine ⟨⟨Fa ++ Fc, by simp, ?_⟩, ?_⟩
      · have t1 := k1.mono k3 hρ (fun _ _ => rfl) (fun _ _ => rfl) (fun _ _ => rfl) (fun _ x => x) (fun _ x => x) (fun _ _ x => x)
        have t2 := k2.mono k4 hρ (fun _ _ => rfl) (fun _ _ => rfl) (fun _ _ => rfl) (fun _ x => x) (fun _ x => x) (fun _ _ x => x)
        have := RelVs.append t1 (RelVs.append m1 t2)
        simpa using this
      · rw [inNs_append]
        exact ⟨V.inNs_mono (fun _ x => .inl x) _ k3, k6, V.inNs_mono (fun _ x => .inl x) _ k4⟩
    · intro x hx hn
      simp only [List.mem_cons, reduceCtorEq, Option.some.injEq, List.not_mem_nil, or_false, false_or] at hx
      subst hx
      simp [upd] at hn
    · simp only [List.flatMap_cons, List.flatMap_nil, List.append_nil, if_true, reduceCtorEq, if_false, hd, e4] at hnd ⊢
      have p : ((Fa ++ (G ++ Fc)) ++ X).Perm (((Fa ++ Fc) ++ X) ++ G) := by
        simp only [List.append_assoc]
        refine List.Perm.append_left Fa ?_
        refine (List.perm_append_comm).trans ?_
        simp [List.append_assoc]
      exact p.nodup_iff.1 hnd
    · intro b hb
      simp only [List.flatMap_cons, List.flatMap_nil, List.append_nil, if_true, reduceCtorEq, if_false, hd, e4, List.mem_append] at hb ⊢
      grind
  obtain ⟨⟨Fp, p1, p2⟩, p3⟩ := h.pend
  obtain ⟨va, vb, Fa, Fb, rfl, rfl, q1, q2⟩ := p2.split
  obtain ⟨val, vc, Fv, Fc, rfl, rfl, q3, q4⟩ := q2.cons_split
  rw [inNs_append] at p3
  obtain ⟨n1, n2, n3⟩ := p3
  unfold nameP at hr
  split at hr
  · -- a row
    rename_i s xs
    cases hr with
    | set hr =>
      cases hr
      cases q3 with
      | d q5 q6 =>
        cases q6
        cases q5 with
        | @none _ _ A _ _ _ q7 =>
          cases q7
          refine key s [] none (.sl nm s 0 0) [] Fa Fc va vc _ rfl rfl rfl (by simpa using p1) q1 q4 n1 n3 (fun ρ' e1 e2 => ⟨.sl (.inl ⟨rfl, rfl⟩) .nil, .none e1⟩) (.inr rfl) trivial
        | @row _ _ b o c _ us G _ _ _ t1 t2 t3 t4 t5 t6 t7 t8 =>
          cases t8
          have t4 := t4 rfl
          refine key s (dd xs) (some ⟨b, o, none⟩) (.sl nm s 0 xs.length) (b :: G) Fa Fc va vc _ rfl rfl rfl (by simpa [Md.foot] using p1) q1 q4 n1 n3 (fun ρ' e1 e2 => ⟨?_, ?_⟩) (.inr rfl) (inNss_dd xs)
          · refine .sl (.inr ⟨b, o, e1, by simp, ?_, t7⟩) .nil
            exact t4.le (by simp)
          · refine .some e1 ?_ t1.one t2 (t4.le ?_) ?_
            · rw [dd_flatten]; exact RelVs.ofD t1
            · rw [dd_length]; exact Nat.add_le_add_left (Nat.mul_le_mul_right s t7) o
            · intro x hx
              simp only [dd, List.mem_map] at hx
              obtain ⟨y, hy, rfl⟩ := hx
              simpa using t6 y hy
  · -- a pointer
    rename_i cs
    cases hr with
    | set hr =>
      cases hr
      cases q3 with
      | d q5 q6 =>
        cases q6
        cases q5 with
        | @ptr _ b o _ us G _ _ _ t1 t2 t3 t4 t5 t8 =>
          cases t8
          have t4 := t4 rfl
          refine key cs.length [cs.map V.d] (some ⟨b, o, none⟩) (.mp nm cs.length 0 0) (b :: G) Fa Fc va vc _ rfl rfl rfl (by simpa [Md.foot] using p1) q1 q4 n1 n3 (fun ρ' e1 e2 => ⟨?_, ?_⟩) (.inr rfl) ⟨inNs_map_d cs, trivial⟩
          · have := RelVs.mp (Z := Z) (B := B) (w := w) (ρ := ρ') (r := nm) (s := cs.length) (i := 0) (j := 0) e1 .nil
            simpa using this
          · refine .some e1 ?_ t1.one t2 (t4.le ?_) ?_
            · simpa using RelVs.ofD t1
            · simp
            · simp
  · -- a fresh array
    rename_i s xs
    cases hr with
    | set hr =>
      cases hr
      cases q3 with
      | @arr _ b _ us G _ _ _ t1 t2 t3 t4 t5 t6 =>
        cases t6
        refine key s xs (some ⟨b, 0, none⟩) (.sl nm s 0 xs.length) (b :: G) Fa Fc va vc _ rfl rfl rfl (by simpa using p1) q1 q4 n1 n3 (fun ρ' e1 e2 => ⟨?_, ?_⟩) (.inr rfl) (V.inNss_mono (fun _ x => .inl x) _ n2)
        · refine .sl (.inr ⟨b, 0, e1, by simp, t4.le (by simp), Nat.le_refl _⟩) .nil
        · refine .some e1 ?_ t2 t3 (t4.le (by simp)) t5
          exact t1.mono (inNss_flatten n2) (fun r hNr => e2 r (by rintro rfl; exact hnm hNr)) (fun _ _ => rfl) (fun _ _ => rfl) (fun _ _ => rfl) (fun _ x => x) (fun _ x => x) (fun _ _ x => x)
  · cases hr
    exact hidle rfl rfl

end
end Go.Proofs.Ytdoboiiilcgbnaa.L
