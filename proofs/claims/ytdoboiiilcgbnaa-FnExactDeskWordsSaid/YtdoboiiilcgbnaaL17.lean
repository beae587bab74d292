/- WHAT IS PROVED: what a function's contract says, and that a call may stand for it: objects are handed in under other names, what is alone held is lent. Conditions: none. -/
import Derived.Test.YtdoboiiilcgbnaaL16
namespace Go.Proofs.Ytdoboiiilcgbnaa.L
set_option linter.unusedVariables false
set_option linter.unusedSimpArgs false

/-! ### Lent data; data without what is lent -/
def Md.lend (_ : Md) : Md := .bor

mutual
def D.lend : D → D
  | .p v => .p v
  | .row m s xs => .row m.lend s (D.lendLL xs)
  | .ptr m cs => .ptr m.lend (D.lendL cs)
def D.lendL : List D → List D
  | [] => []
  | x :: xs => x.lend :: D.lendL xs
def D.lendLL : List (List D) → List (List D)
  | [] => []
  | x :: xs => D.lendL x :: D.lendLL xs
end

theorem D.lendL_map : ∀ xs : List D, D.lendL xs = xs.map D.lend
  | [] => rfl
  | x :: xs => by rw [D.lendL, D.lendL_map xs]; rfl

theorem D.lendLL_map : ∀ xs : List (List D), D.lendLL xs = xs.map fun r => r.map D.lend
  | [] => rfl
  | x :: xs => by rw [D.lendLL, D.lendLL_map xs, D.lendL_map]; rfl

theorem D.lend_flatten (xs : List (List D)) : D.lendL xs.flatten = (D.lendLL xs).flatten := by
  rw [D.lendL_map, D.lendLL_map, List.map_flatten]

theorem Md.lend_foot (m : Md) (b : Nat) : m.lend.foot b = [] := rfl

def Md.nb : Md → Bool
  | .bor => false
  | _ => true

mutual
def D.nb : D → Bool
  | .p _ => true
  | .row m _ xs => m.nb && D.nbLL xs
  | .ptr m cs => m.nb && D.nbL cs
def D.nbL : List D → Bool
  | [] => true
  | x :: xs => x.nb && D.nbL xs
def D.nbLL : List (List D) → Bool
  | [] => true
  | x :: xs => D.nbL x && D.nbLL xs
end

theorem D.nbL_append : ∀ xs ys : List D, D.nbL (xs ++ ys) = (D.nbL xs && D.nbL ys)
  | [], ys => by simp [D.nbL]
  | x :: xs, ys => by simp [D.nbL, D.nbL_append xs ys, Bool.and_assoc]

theorem D.nb_flatten : ∀ xs : List (List D), D.nbL xs.flatten = D.nbLL xs
  | [] => rfl
  | x :: xs => by rw [List.flatten_cons, D.nbL_append, D.nbLL, D.nb_flatten xs]

mutual
def V.nb : V → Bool
  | .d x => x.nb
  | .sl _ _ _ _ => true
  | .mp _ _ _ _ => true
  | .agg cs => V.nbL cs
  | .clo _ cs => V.nbL cs
  | .tup cs => V.nbL cs
  | .arr _ xs => V.nbLL xs
def V.nbL : List V → Bool
  | [] => true
  | x :: xs => x.nb && V.nbL xs
def V.nbLL : List (List V) → Bool
  | [] => true
  | x :: xs => V.nbL x && V.nbLL xs
end

theorem V.nbL_append : ∀ xs ys : List V, V.nbL (xs ++ ys) = (V.nbL xs && V.nbL ys)
  | [], ys => by simp [V.nbL]
  | x :: xs, ys => by simp [V.nbL, V.nbL_append xs ys, Bool.and_assoc]

theorem V.nb_flatten : ∀ xs : List (List V), V.nbL xs.flatten = V.nbLL xs
  | [] => rfl
  | x :: xs => by rw [List.flatten_cons, V.nbL_append, V.nbLL, V.nb_flatten xs]

def C.nb : C → Bool
  | .v x => x.nb
  | .o _ xs => V.nbLL xs

section
variable {Z B B2 : Zone} {w : World} {ρ ρ2 : Names}

theorem RelDs.lend {ds : List D} {vs : List Value} {F : List Nat} (h : RelDs Z B w ds vs F) (hF : ∀ b ∈ F, B2 b) (hB : ∀ b, B b → B2 b) (hZ : ∀ b, Z b → B2 b) : RelDs Z B2 w (D.lendL ds) vs [] := by
  induction h with
  | nil => exact .nil
  | p h1 _ ih => exact .p h1 (ih hF)
  | none _ ih => exact .none (ih hF)
  | @row m s b o c xs us F ds vs G h1 h2 h3 h4 h5 h6 h7 h8 ih1 ih2 =>
    have i1 := ih1 (fun x hx => hF x (by simp [hx]))
    have i2 := ih2 (fun x hx => hF x (by simp [hx]))
    rw [D.lend_flatten] at i1
    have hl : (D.lendLL xs).length = xs.length := by rw [D.lendLL_map, List.length_map]
    have := RelDs.row (m := m.lend) (s := s) (c := c) i1 h2 (by
      cases m with
      | own => exact hF b (by simp [Md.foot])
      | frz => exact hZ b h3
      | bor => exact hB b h3) (fun e => by cases e) (fun _ => rfl) (by
      intro x hx
      rw [D.lendLL_map] at hx
      obtain ⟨y, hy, rfl⟩ := List.mem_map.1 hx
      simpa using h6 y hy) (by rw [hl]; exact h7) i2
    rw [hl, Md.lend_foot] at this
    exact this
  | @ptr m b o cs us F ds vs G h1 h2 h3 h4 h5 h6 ih1 ih2 =>
    have i1 := ih1 (fun x hx => hF x (by simp [hx]))
    have i2 := ih2 (fun x hx => hF x (by simp [hx]))
    have := RelDs.ptr (m := m.lend) i1 h2 (by
      cases m with
      | own => exact hF b (by simp [Md.foot])
      | frz => exact hZ b h3
      | bor => exact hB b h3) (fun e => by cases e) (fun _ => rfl) i2
    rw [Md.lend_foot] at this
    exact this

theorem RelDs.nb {ds : List D} {vs : List Value} {F : List Nat} (h : RelDs Z B w ds vs F) (hn : D.nbL ds = true) : RelDs Z B2 w ds vs F := by
  induction h with
  | nil => exact .nil
  | p h1 _ ih => exact .p h1 (ih (by simpa [D.nbL, D.nb] using hn))
  | none _ ih => exact .none (ih (by simp [D.nbL, D.nb] at hn; exact hn.2))
  | @row m s b o c xs us F ds vs G h1 h2 h3 h4 h5 h6 h7 h8 ih1 ih2 =>
    simp only [D.nbL, D.nb, Bool.and_eq_true] at hn
    exact .row (ih1 (by rw [D.nb_flatten]; exact hn.1.2)) h2 (by
      cases m with
      | own => trivial
      | frz => exact h3
      | bor => cases hn.1.1) h4 h5 h6 h7 (ih2 hn.2)
  | @ptr m b o cs us F ds vs G h1 h2 h3 h4 h5 h6 ih1 ih2 =>
    simp only [D.nbL, D.nb, Bool.and_eq_true] at hn
    exact .ptr (ih1 hn.1.2) h2 (by
      cases m with
      | own => trivial
      | frz => exact h3
      | bor => cases hn.1.1) h4 h5 (ih2 hn.2)

theorem RelVs.nb {ds : List V} {vs : List Value} {F : List Nat} (h : RelVs Z B w ρ ds vs F) (hn : V.nbL ds = true) : RelVs Z B2 w ρ ds vs F := by
  induction h with
  | nil => exact .nil
  | d h1 _ ih => 
    simp only [V.nbL, V.nb, Bool.and_eq_true] at hn
    exact .d (h1.nb (by simp [D.nbL, hn.1])) (ih hn.2)
  | sl h1 _ ih => simp only [V.nbL, V.nb, Bool.and_eq_true] at hn; exact .sl h1 (ih hn.2)
  | mp h1 _ ih => simp only [V.nbL, V.nb, Bool.and_eq_true] at hn; exact .mp h1 (ih hn.2)
  | agg h1 h2 h3 ih1 ih2 => simp only [V.nbL, V.nb, Bool.and_eq_true] at hn; exact .agg (ih1 hn.1) h2 (ih2 hn.2)
  | clo h1 h3 ih1 ih2 => simp only [V.nbL, V.nb, Bool.and_eq_true] at hn; exact .clo (ih1 hn.1) (ih2 hn.2)
  | tup h1 h3 ih1 ih2 => simp only [V.nbL, V.nb, Bool.and_eq_true] at hn; exact .tup (ih1 hn.1) (ih2 hn.2)
  | arr h1 h2 h3 h4 h5 h6 ih1 ih2 => simp only [V.nbL, V.nb, Bool.and_eq_true] at hn; exact .arr (ih1 (by rw [V.nb_flatten]; exact hn.1)) h2 h3 h4 h5 (ih2 hn.2)

/-! ### Other names -/
end

mutual
def V.ren (π : Nat → Nat) : V → V
  | .d x => .d x
  | .sl r s i n => .sl (π r) s i n
  | .mp r s i j => .mp (π r) s i j
  | .agg cs => .agg (V.renL π cs)
  | .clo f cs => .clo f (V.renL π cs)
  | .tup cs => .tup (V.renL π cs)
  | .arr s xs => .arr s (V.renLL π xs)
def V.renL (π : Nat → Nat) : List V → List V
  | [] => []
  | x :: xs => x.ren π :: V.renL π xs
def V.renLL (π : Nat → Nat) : List (List V) → List (List V)
  | [] => []
  | x :: xs => V.renL π x :: V.renLL π xs
end

def C.ren (π : Nat → Nat) : C → C
  | .v x => .v (x.ren π)
  | .o s xs => .o s (V.renLL π xs)

theorem V.renL_map (π : Nat → Nat) : ∀ xs : List V, V.renL π xs = xs.map (V.ren π)
  | [] => rfl
  | x :: xs => by rw [V.renL, V.renL_map π xs]; rfl

theorem V.renLL_map (π : Nat → Nat) : ∀ xs : List (List V), V.renLL π xs = xs.map fun r => r.map (V.ren π)
  | [] => rfl
  | x :: xs => by rw [V.renLL, V.renLL_map π xs, V.renL_map]; rfl

theorem V.ren_flatten (π : Nat → Nat) (xs : List (List V)) : V.renL π xs.flatten = (V.renLL π xs).flatten := by
  rw [V.renL_map, V.renLL_map, List.map_flatten]

section
variable {Z B B2 : Zone} {w : World} {ρ ρ2 : Names} {N N2 : Nat → Prop} {π : Nat → Nat}

mutual
theorem V.ren_inN (h : ∀ r, N r → N2 (π r)) : ∀ v : V, v.inN N → (v.ren π).inN N2
  | .d _, _ => trivial
  | .sl r _ _ _, k => h r k
  | .mp r _ _ _, k => h r k
  | .agg cs, k => V.ren_inNs h cs k
  | .clo _ cs, k => V.ren_inNs h cs k
  | .tup cs, k => V.ren_inNs h cs k
  | .arr _ xs, k => V.ren_inNss h xs k
theorem V.ren_inNs (h : ∀ r, N r → N2 (π r)) : ∀ v : List V, V.inNs N v → V.inNs N2 (V.renL π v)
  | [], _ => trivial
  | x :: xs, k => ⟨V.ren_inN h x k.1, V.ren_inNs h xs k.2⟩
theorem V.ren_inNss (h : ∀ r, N r → N2 (π r)) : ∀ v : List (List V), V.inNss N v → V.inNss N2 (V.renLL π v)
  | [], _ => trivial
  | x :: xs, k => ⟨V.ren_inNs h x k.1, V.ren_inNss h xs k.2⟩
end

theorem SlOk.ren {r r2 s i n c : Nat} {A : Option Addr} (h : SlOk w ρ r s i n A c) (hρ : ρ2 r2 = ρ r) : SlOk w ρ2 r2 s i n A c := by
  rcases h with h | ⟨b, o, h1, h2⟩
  · exact .inl h
  · exact .inr ⟨b, o, hρ.trans h1, h2⟩

theorem RelVs.ren {ds : List V} {vs : List Value} {F : List Nat} (h : RelVs Z B w ρ ds vs F) (hN : V.inNs N ds) (hρ : ∀ r, N r → ρ2 (π r) = ρ r) : RelVs Z B w ρ2 (V.renL π ds) vs F := by
  induction h with
  | nil => exact .nil
  | d h1 _ ih => exact .d h1 (ih hN.2)
  | sl h1 _ ih => exact .sl (h1.ren (hρ _ hN.1)) (ih hN.2)
  | mp h1 _ ih => exact .mp ((hρ _ hN.1).trans h1) (ih hN.2)
  | agg h1 h2 h3 ih1 ih2 => exact .agg (ih1 hN.1) h2 (ih2 hN.2)
  | clo h1 h3 ih1 ih2 => exact .clo (ih1 hN.1) (ih2 hN.2)
  | tup h1 h3 ih1 ih2 => exact .tup (ih1 hN.1) (ih2 hN.2)
  | @arr s b xs us F ds vs G h1 h2 h3 h4 h5 h6 ih1 ih2 =>
    have hl : (V.renLL π xs).length = xs.length := by rw [V.renLL_map, List.length_map]
    have := RelVs.arr (s := s) (xs := V.renLL π xs) (by rw [← V.ren_flatten]; exact ih1 (inNss_flatten hN.1)) h2 h3 (by rw [hl]; exact h4) (by
      intro x hx
      rw [V.renLL_map] at hx
      obtain ⟨y, hy, rfl⟩ := List.mem_map.1 hx
      simpa using h5 y hy) (ih2 hN.2)
    rw [hl] at this
    exact this

theorem RelVs.unren : ∀ {ds' : List V} {vs : List Value} {F : List Nat}, RelVs Z B w ρ2 ds' vs F → ∀ ds : List V, V.renL π ds = ds' → V.inNs N ds → (∀ r, N r → ρ r = ρ2 (π r)) → RelVs Z B w ρ ds vs F := by
  intro ds' vs F h
  induction h with
  | nil =>
    intro ds e hN hρ
    cases ds with
    | nil => exact .nil
    | cons x xs => cases e
  | d h1 _ ih =>
    intro ds e hN hρ
    cases ds with
    | nil => cases e
    | cons x xs =>
      simp only [V.renL, List.cons.injEq] at e
      obtain ⟨e1, e2⟩ := e
      cases x <;> simp only [V.ren, reduceCtorEq, V.d.injEq] at e1
      subst e1
      exact .d h1 (ih xs e2 hN.2 hρ)
  | sl h1 _ ih =>
    intro ds e hN hρ
    cases ds with
    | nil => cases e
    | cons x xs =>
      simp only [V.renL, List.cons.injEq] at e
      obtain ⟨e1, e2⟩ := e
      cases x <;> simp only [V.ren, reduceCtorEq, V.sl.injEq] at e1
      obtain ⟨rfl, rfl, rfl, rfl⟩ := e1
      exact .sl (h1.ren (hρ _ hN.1)) (ih xs e2 hN.2 hρ)
  | mp h1 _ ih =>
    intro ds e hN hρ
    cases ds with
    | nil => cases e
    | cons x xs =>
      simp only [V.renL, List.cons.injEq] at e
      obtain ⟨e1, e2⟩ := e
      cases x <;> simp only [V.ren, reduceCtorEq, V.mp.injEq] at e1
      obtain ⟨rfl, rfl, rfl, rfl⟩ := e1
      exact .mp ((hρ _ hN.1).trans h1) (ih xs e2 hN.2 hρ)
  | agg h1 h2 h3 ih1 ih2 =>
    intro ds e hN hρ
    cases ds with
    | nil => cases e
    | cons x xs =>
      simp only [V.renL, List.cons.injEq] at e
      obtain ⟨e1, e2⟩ := e
      cases x <;> simp only [V.ren, reduceCtorEq, V.agg.injEq] at e1
      exact .agg (ih1 _ e1 hN.1 hρ) h2 (ih2 xs e2 hN.2 hρ)
  | clo h1 h3 ih1 ih2 =>
    intro ds e hN hρ
    cases ds with
    | nil => cases e
    | cons x xs =>
      simp only [V.renL, List.cons.injEq] at e
      obtain ⟨e1, e2⟩ := e
      cases x <;> simp only [V.ren, reduceCtorEq, V.clo.injEq] at e1
      obtain ⟨rfl, e1⟩ := e1
      exact .clo (ih1 _ e1 hN.1 hρ) (ih2 xs e2 hN.2 hρ)
  | tup h1 h3 ih1 ih2 =>
    intro ds e hN hρ
    cases ds with
    | nil => cases e
    | cons x xs =>
      simp only [V.renL, List.cons.injEq] at e
      obtain ⟨e1, e2⟩ := e
      cases x <;> simp only [V.ren, reduceCtorEq, V.tup.injEq] at e1
      exact .tup (ih1 _ e1 hN.1 hρ) (ih2 xs e2 hN.2 hρ)
  | @arr s b xs0 us F ds0 vs G h1 h2 h3 h4 h5 h6 ih1 ih2 =>
    intro ds e hN hρ
    cases ds with
    | nil => cases e
    | cons x xs =>
      simp only [V.renL, List.cons.injEq] at e
      obtain ⟨e1, e2⟩ := e
      cases x <;> simp only [V.ren, reduceCtorEq, V.arr.injEq] at e1
      rename_i s' xs'
      obtain ⟨rfl, rfl⟩ := e1
      have hl : (V.renLL π xs').length = xs'.length := by rw [V.renLL_map, List.length_map]
      rw [hl] at h4
      have := RelVs.arr (ih1 _ (V.ren_flatten π xs') (inNss_flatten hN.1) hρ) h2 h3 h4 (by
        intro x hx
        have := h5 (x.map (V.ren π)) (by rw [V.renLL_map]; exact List.mem_map_of_mem hx)
        simpa using this) (ih2 xs e2 hN.2 hρ)
      rw [← hl] at this
      exact this
end

/-! ### What a function's contract says -/
def stO (objs : List C) : St
  | .s _ => none
  | .r i => objs[i]?

structure Con (P : Program) (f : FuncId) (args : List V) (objs : List C) (v : V) (objs' : List C) : Prop where
  enters : ∀ (a : Array Value) (w : World), (callFunc f a).run P w = .ok (.enter f a) w
  inA : V.inNs (· < objs.length) args
  inO : ∀ c ∈ objs, c.inN (· < objs.length)
  inV : v.inN (· < objs.length)
  inO' : ∀ c ∈ objs', c.inN (· < objs.length)
  len : objs'.length = objs.length
  call : ∀ (Γ : Ctx) (vals : List Value) (w : World), Γ.k = objs.length → SatP Γ (· < objs.length) (stO objs) args vals #[] w →
    Calls P f vals.toArray w fun e w' => ∃ val N, e = .returned val ∧ SatP Γ N (stO objs') [v] [val] #[] w'

/-- How the caller's value may go in: under another name, or lent. -/
inductive ArgOk (st : St) (π : Nat → Nat) (L : Nat → Prop) : List V → List V → Prop
  | nil : ArgOk st π L [] []
  | ren {y : V} {xs ys : List V} : ArgOk st π L xs ys → ArgOk st π L (y.ren π :: xs) (y :: ys)
  | d {x : D} {xs ys : List V} : x.lin = false → ArgOk st π L xs ys → ArgOk st π L (.d x :: xs) (.d x.lend :: ys)
  | agg {as bs xs ys : List V} : ArgOk st π L as bs → ArgOk st π L xs ys → ArgOk st π L (.agg as :: xs) (.agg bs :: ys)
  | sl {r s i n : Nat} {rs : List (List V)} {ds : List (List D)} {xs ys : List V} : L r → st (.r r) = some (.o s rs) → i + n ≤ rs.length → undd ((rs.drop i).take n) = some ds →
      ArgOk st π L xs ys → ArgOk st π L (.sl r s i n :: xs) (.d (.row .bor s (D.lendLL ds)) :: ys)
  | mp {r s i j : Nat} {rs : List (List V)} {row : List V} {ds : List D} {xs ys : List V} : L r → st (.r r) = some (.o s rs) → rs[i]? = some row → j ≤ row.length → undd.unddR (row.drop j) = some ds →
      ArgOk st π L xs ys → ArgOk st π L (.mp r s i j :: xs) (.d (.ptr .bor (D.lendL ds)) :: ys)

end Go.Proofs.Ytdoboiiilcgbnaa.L
