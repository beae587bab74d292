/- WHAT IS PROVED: rules for rows of data in objects, and for calls that lend. Conditions: none. -/
import Derived.Test.YtdoboiiilcgbnaaL33
namespace Go.Proofs.Ytdoboiiilcgbnaa.L
set_option linter.unusedVariables false
set_option linter.unusedSimpArgs false

theorem dd_get (ds : List (List D)) (i : Nat) : (dd ds)[i]? = ds[i]?.map (List.map V.d) := by simp [dd]
theorem dd_take (ds : List (List D)) (n : Nat) : (dd ds).take n = dd (ds.take n) := by simp [dd, List.map_take]
theorem dd_drop (ds : List (List D)) (n : Nat) : (dd ds).drop n = dd (ds.drop n) := by simp [dd, List.map_drop]
theorem dd_append (a b : List (List D)) : dd (a ++ b) = dd a ++ dd b := by simp [dd]
theorem dd_set (ds : List (List D)) (i : Nat) (r : List D) : (dd ds).set i (r.map V.d) = dd (ds.set i r) := by simp [dd, List.map_set]

theorem resGol_d (n : Nat) : ∀ r : List D, resV.gol (n + 1) (r.map V.d) = .ret r
  | [] => by simp [resV.gol]
  | x :: r => by
    simp only [List.map_cons, resV.gol, resV, Prog.bind, resGol_d n r]
theorem resGo_dd (n : Nat) : ∀ ds : List (List D), resV.go (n + 1) (dd ds) = .ret ds
  | [] => by simp [resV.go, dd]
  | x :: ds => by
    have := resGo_dd n ds
    simp only [dd] at this
    simp only [dd, List.map_cons, resV.go, Prog.bind, this]
    rw [resGol_d]
    rfl
theorem undd_dd : ∀ ds : List (List D), undd (dd ds) = some ds
  | [] => by simp [undd, dd]
  | x :: ds => by
    have h : ∀ r : List D, undd.unddR (r.map V.d) = some r := by
      intro r
      induction r with
      | nil => simp [undd.unddR]
      | cons y r ih => simp [undd.unddR, ih]
    have := undd_dd ds
    simp only [dd] at this
    simp [dd, undd, this, h]

theorem lendLL_of {α : Type} (f g : α → List D) (h : ∀ m, D.lendL (f m) = g m) (l : List α) : D.lendLL (l.map f) = l.map g := by
  rw [D.lendLL_map, List.map_map]
  apply List.map_congr_left
  intro x _
  have := h x
  rw [D.lendL_map] at this
  exact this

/-- rows, the first so many of them filled in. -/
def fill {α : Type} (l : List α) (z : α) (x : Nat) : List α := l.take x ++ List.replicate (l.length - x) z
theorem fill_zero {α : Type} (l : List α) (z : α) : fill l z 0 = List.replicate l.length z := by simp [fill]
theorem fill_all {α : Type} {l : List α} {z : α} {x : Nat} (h : l.length ≤ x) : fill l z x = l := by
  have : l.length - x = 0 := by omega
  simp [fill, this, List.take_of_length_le h]
theorem fill_length {α : Type} {l : List α} {z : α} {x : Nat} (h : x ≤ l.length) : (fill l z x).length = l.length := by
  simp [fill]; omega
theorem fill_get {α : Type} {l : List α} {z : α} {x : Nat} (h : x < l.length) : (fill l z x)[x]? = some z := by
  unfold fill
  rw [List.getElem?_append_right (by simp; omega)]
  have e : x - (List.take x l).length = 0 := by simp; omega
  rw [e, List.getElem?_replicate, if_pos (by omega)]
theorem fill_set {α : Type} {l : List α} {z m : α} {x : Nat} (h : l[x]? = some m) : (fill l z x).set x m = fill l z (x + 1) := by
  obtain ⟨h1, h2⟩ := List.getElem?_eq_some_iff.1 h
  unfold fill
  have e : l.length - x = (l.length - (x + 1)) + 1 := by omega
  have hl : (l.take x).length = x := by simp; omega
  rw [e, List.replicate_succ, List.set_append_right _ _ (by omega), hl, Nat.sub_self, List.set_cons_zero, ← List.take_append_getElem h1, h2]
  simp

theorem take_len_map {α β : Type} (f : α → β) (l : List α) : (l.map f).take l.length = l.map f := by
  rw [List.take_of_length_le (by simp)]
theorem dd_fill_set {α : Type} {l : List α} {f : α → List D} {z : List D} {x : Nat} {m : α} (h : l[x]? = some m) :
    (dd (fill (l.map f) z x)).set x ((f m).map V.d) = dd (fill (l.map f) z (x + 1)) := by
  rw [dd_set, fill_set (by rw [List.getElem?_map, h]; rfl)]

theorem rows_as {α : Type} {f : α → List D} {ok : α → Prop} : ∀ {xs : List (List D)}, (∀ x ∈ xs, ∃ m, x = f m ∧ ok m) → ∃ l : List α, xs = l.map f ∧ ∀ m ∈ l, ok m
  | [], _ => ⟨[], rfl, by simp⟩
  | x :: xs, h => by
    obtain ⟨m, h1, h2⟩ := h x (by simp)
    obtain ⟨l, h3, h4⟩ := rows_as (f := f) (ok := ok) (xs := xs) (fun y hy => h y (by simp [hy]))
    exact ⟨m :: l, by simp [h1, h3], by simpa using ⟨h2, h4⟩⟩

mutual
def V.namesOf : V → List Nat
  | .sl r _ _ _ => [r]
  | .mp r _ _ _ => [r]
  | .agg cs => V.namesOfL cs
  | _ => []
def V.namesOfL : List V → List Nat
  | [] => []
  | x :: xs => V.namesOf x ++ V.namesOfL xs
end

/-- A call that hands in no object by name: what is named is lent. -/
theorem call_lend {P : Program} {f : FuncId} {xs ys : List V} {v : V} {nm : Nat} {st : SL} {R W : List Res} {k : V → SL → List Res → List Res → Prop} (hc : Con P f ys [] v []) (hv : v.nb = true)
    (h : (argsP (fun i => ([] : List Nat).getD i 0) (V.namesOfL xs) ys xs).wp st R W fun _ st R W => (nameAll nm (v.ren fun i => ([] : List Nat).getD i 0)).wp st R W k) : (callP P nm f xs).wp st R W k := by
  simp only [callP, Prog.wp]
  refine ⟨⟨ys, [], v, [], [], V.namesOfL xs⟩, ⟨hc, List.nodup_nil, by simp, .inr ⟨hv, by simp⟩⟩, ?_⟩
  simp only [Prog.wp_bind]
  simp only [objsP, Prog.wp]
  exact h

end Go.Proofs.Ytdoboiiilcgbnaa.L
