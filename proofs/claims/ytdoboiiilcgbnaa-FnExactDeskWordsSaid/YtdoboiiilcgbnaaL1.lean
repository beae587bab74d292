/- WHAT IS PROVED: lemmas on the relation between abstract values and the model's. Conditions: none. -/
import Derived.Test.YtdoboiiilcgbnaaL0
namespace Go.Proofs.Ytdoboiiilcgbnaa.L
set_option linter.unusedVariables false
set_option linter.unusedSimpArgs false

theorem rangeAt_same {w w' : World} {b o : Nat} {us : List Value} (h : w'.heap[b]? = w.heap[b]?) (r : w.rangeAt b o us) : w'.rangeAt b o us :=
  fun j v hv => (World.cell?_of_block (a := ⟨b, o + j, none⟩) h).trans (r j v hv)

theorem Blk.same {w w' : World} {b n : Nat} (h : w'.heap[b]? = w.heap[b]?) (r : Blk w b n) : Blk w' b n := by
  obtain ⟨arr, ty, fz, h1, h2⟩ := r
  exact ⟨arr, ty, fz, h.trans h1, h2⟩

theorem Blk.le {w : World} {b n n' : Nat} (h : Blk w b n) (l : n' ≤ n) : Blk w b n' := by
  obtain ⟨arr, ty, fz, h1, h0, h2⟩ := h
  exact ⟨arr, ty, fz, h1, h0, Nat.le_trans l h2⟩

theorem Blk.lt {w : World} {b n : Nat} (h : Blk w b n) : b < w.heap.size := by
  obtain ⟨arr, ty, fz, h1, h2⟩ := h
  exact (Array.getElem?_eq_some_iff.1 h1).1

theorem Blk.there {w : World} {b n o m : Nat} (h : Blk w b n) (l : o + m ≤ n) : w.there b o m := by
  obtain ⟨arr, ty, fz, h1, h0, h2⟩ := h
  intro j hj
  constructor
  · simp only [World.cell?, h1]
    simp
    omega
  · have := h0 (o + j) (by omega)
    simp only [World.frozen?, h1, Bool.and_eq_false_iff, decide_eq_false_iff_not]
    rcases Nat.lt_or_ge (o + j) fz.1 with h | h
    · left; omega
    · right; omega

theorem Blk.isSome {w : World} {b n o : Nat} (h : Blk w b n) (l : o < n) : (w.cell? ⟨b, o, none⟩).isSome = true := by
  have := (h.there (o := o) (m := 1) (by omega) 0 (by omega)).1
  simpa using this

theorem Md.mem_foot {m : Md} {b : Nat} (h : m = .own) : b ∈ m.foot b := by subst h; simp [Md.foot]

theorem RelDs.mono {Z B Z' B' : Zone} {w w' : World} {ds : List D} {vs : List Value} {F : List Nat} (h : RelDs Z B w ds vs F)
    (hF : ∀ b ∈ F, w'.heap[b]? = w.heap[b]?) (hz : ∀ b, Z b → w'.heap[b]? = w.heap[b]?) (hb : ∀ b, B b → w'.heap[b]? = w.heap[b]?)
    (hZ : ∀ b, Z b → Z' b) (hB : ∀ b, B b → B' b) : RelDs Z' B' w' ds vs F := by
  induction h with
  | nil => exact .nil
  | p h1 _ ih => exact .p h1 (ih hF)
  | none _ ih => exact .none (ih hF)
  | @row m s b o c xs us F ds vs G h1 h2 h3 h4 h5 h6 h7 h8 ih1 ih2 =>
    have hs : w'.heap[b]? = w.heap[b]? := by
      cases m with
      | own => exact hF b (by simp [Md.foot])
      | frz => exact hz b h3
      | bor => exact hb b h3
    refine .row (ih1 fun x hx => hF x (by simp [hx])) (rangeAt_same hs h2) ?_ (fun e => (h4 e).same hs) h5 h6 h7 (ih2 fun x hx => hF x (by simp [hx]))
    cases m with
    | own => trivial
    | frz => exact hZ b h3
    | bor => exact hB b h3
  | @ptr m b o cs us F ds vs G h1 h2 h3 h4 h5 h6 ih1 ih2 =>
    have hs : w'.heap[b]? = w.heap[b]? := by
      cases m with
      | own => exact hF b (by simp [Md.foot])
      | frz => exact hz b h3
      | bor => exact hb b h3
    refine .ptr (ih1 fun x hx => hF x (by simp [hx])) (rangeAt_same hs h2) ?_ (fun e => (h4 e).same hs) h5 (ih2 fun x hx => hF x (by simp [hx]))
    cases m with
    | own => trivial
    | frz => exact hZ b h3
    | bor => exact hB b h3

theorem SlOk.mono {w w' : World} {ρ ρ' : Names} {r s i n c : Nat} {A : Option Addr} (h : SlOk w ρ r s i n A c) (hρ : ρ' r = ρ r) (hb : ∀ b n, Blk w b n → Blk w' b n) :
    SlOk w' ρ' r s i n A c := by
  rcases h with h | ⟨b, o, h1, h2, h3, h4⟩
  · exact .inl h
  · exact .inr ⟨b, o, hρ.trans h1, h2, hb _ _ h3, h4⟩

theorem inNss_flatten {N : Nat → Prop} : ∀ {xs : List (List V)}, V.inNss N xs → V.inNs N xs.flatten
  | [], _ => trivial
  | [] :: xs, h => inNss_flatten (xs := xs) h.2
  | (x :: r) :: xs, h => by
    have := inNss_flatten (xs := r :: xs) ⟨h.1.2, h.2⟩
    exact ⟨h.1.1, this⟩

theorem inNs_append {N : Nat → Prop} : ∀ {a b : List V}, V.inNs N (a ++ b) ↔ V.inNs N a ∧ V.inNs N b
  | [], b => by simp [V.inNs]
  | x :: a, b => by simp [V.inNs, inNs_append (a := a) (b := b), and_assoc]

theorem inNss_append {N : Nat → Prop} : ∀ {a b : List (List V)}, V.inNss N (a ++ b) ↔ V.inNss N a ∧ V.inNss N b
  | [], b => by simp [V.inNss]
  | x :: a, b => by simp [V.inNss, inNss_append (a := a) (b := b), and_assoc]

theorem inNs_iff {N : Nat → Prop} : ∀ {a : List V}, V.inNs N a ↔ ∀ x ∈ a, V.inN N x
  | [] => by simp [V.inNs]
  | x :: a => by simp [V.inNs, inNs_iff (a := a)]

theorem inNss_iff {N : Nat → Prop} : ∀ {a : List (List V)}, V.inNss N a ↔ ∀ x ∈ a, V.inNs N x
  | [] => by simp [V.inNss]
  | x :: a => by simp [V.inNss, inNss_iff (a := a)]

mutual
theorem V.inN_mono {N N' : Nat → Prop} (h : ∀ r, N r → N' r) : ∀ v : V, v.inN N → v.inN N'
  | .d _, _ => trivial
  | .sl .., x => h _ x
  | .mp .., x => h _ x
  | .agg cs, x => V.inNs_mono h cs x
  | .clo _ cs, x => V.inNs_mono h cs x
  | .tup cs, x => V.inNs_mono h cs x
  | .arr _ xs, x => V.inNss_mono h xs x
theorem V.inNs_mono {N N' : Nat → Prop} (h : ∀ r, N r → N' r) : ∀ v : List V, V.inNs N v → V.inNs N' v
  | [], _ => trivial
  | v :: vs, x => ⟨V.inN_mono h v x.1, V.inNs_mono h vs x.2⟩
theorem V.inNss_mono {N N' : Nat → Prop} (h : ∀ r, N r → N' r) : ∀ v : List (List V), V.inNss N v → V.inNss N' v
  | [], _ => trivial
  | v :: vs, x => ⟨V.inNs_mono h v x.1, V.inNss_mono h vs x.2⟩
end

theorem C.inN_mono {N N' : Nat → Prop} (h : ∀ r, N r → N' r) : ∀ c : C, c.inN N → c.inN N'
  | .v x, y => V.inN_mono h x y
  | .o _ xs, y => V.inNss_mono h xs y

theorem RelVs.mono {Z B Z' B' : Zone} {w w' : World} {ρ ρ' : Names} {N : Nat → Prop} {ds : List V} {vs : List Value} {F : List Nat} (h : RelVs Z B w ρ ds vs F)
    (hN : V.inNs N ds) (hρ : ∀ r, N r → ρ' r = ρ r)
    (hF : ∀ b ∈ F, w'.heap[b]? = w.heap[b]?) (hz : ∀ b, Z b → w'.heap[b]? = w.heap[b]?) (hb : ∀ b, B b → w'.heap[b]? = w.heap[b]?)
    (hZ : ∀ b, Z b → Z' b) (hB : ∀ b, B b → B' b) (hk : ∀ b n, Blk w b n → Blk w' b n) : RelVs Z' B' w' ρ' ds vs F := by
  induction h with
  | nil => exact .nil
  | d h1 _ ih => exact .d (h1.mono (fun x hx => hF x (by simp [hx])) hz hb hZ hB) (ih hN.2 fun x hx => hF x (by simp [hx]))
  | sl h1 _ ih => exact .sl (h1.mono (hρ _ hN.1) hk) (ih hN.2 hF)
  | mp h1 _ ih => exact .mp ((hρ _ hN.1).trans h1) (ih hN.2 hF)
  | agg h1 h2 h3 ih1 ih2 => exact .agg (ih1 hN.1 fun x hx => hF x (by simp [hx])) h2 (ih2 hN.2 fun x hx => hF x (by simp [hx]))
  | clo h1 h3 ih1 ih2 => exact .clo (ih1 hN.1 fun x hx => hF x (by simp [hx])) (ih2 hN.2 fun x hx => hF x (by simp [hx]))
  | tup h1 h3 ih1 ih2 => exact .tup (ih1 hN.1 fun x hx => hF x (by simp [hx])) (ih2 hN.2 fun x hx => hF x (by simp [hx]))
  | @arr s b xs us F ds vs G h1 h2 h3 h4 h5 h6 ih1 ih2 =>
    exact .arr (ih1 (inNss_flatten hN.1) fun x hx => hF x (by simp [hx])) h2 (rangeAt_same (hF b (by simp)) h3) (hk _ _ h4) h5 (ih2 hN.2 fun x hx => hF x (by simp [hx]))

theorem RelDs.length {Z B : Zone} {w : World} {ds : List D} {vs : List Value} {F : List Nat} (h : RelDs Z B w ds vs F) : ds.length = vs.length := by
  induction h <;> simp_all

theorem RelVs.length {Z B : Zone} {w : World} {ρ : Names} {ds : List V} {vs : List Value} {F : List Nat} (h : RelVs Z B w ρ ds vs F) : ds.length = vs.length := by
  induction h <;> simp_all

theorem RelDs.one {Z B : Zone} {w : World} {ds : List D} {vs : List Value} {F : List Nat} (h : RelDs Z B w ds vs F) : ∀ v ∈ vs, v.oneCell' = true := by
  induction h with
  | nil => intro v hv; cases hv
  | p h1 _ ih => intro v hv; cases hv with | head => exact h1 | tail _ h => exact ih v h
  | none _ ih => intro v hv; cases hv with | head => rfl | tail _ h => exact ih v h
  | row _ _ _ _ _ _ _ _ _ ih => intro v hv; cases hv with | head => rfl | tail _ h => exact ih v h
  | ptr _ _ _ _ _ _ _ ih => intro v hv; cases hv with | head => rfl | tail _ h => exact ih v h

/-! ### Lists in parts -/
theorem RelDs.append {Z B : Zone} {w : World} {a b : List D} {va vb : List Value} {Fa Fb : List Nat} (h : RelDs Z B w a va Fa) (k : RelDs Z B w b vb Fb) :
    RelDs Z B w (a ++ b) (va ++ vb) (Fa ++ Fb) := by
  induction h with
  | nil => exact k
  | p h1 _ ih => exact .p h1 ih
  | none _ ih => exact .none ih
  | row h1 h2 h3 h4 h5 h6 h7 _ _ ih => rw [List.append_assoc]; exact .row h1 h2 h3 h4 h5 h6 h7 ih
  | ptr h1 h2 h3 h4 h5 _ _ ih => rw [List.append_assoc]; exact .ptr h1 h2 h3 h4 h5 ih

theorem RelVs.append {Z B : Zone} {w : World} {ρ : Names} {a b : List V} {va vb : List Value} {Fa Fb : List Nat} (h : RelVs Z B w ρ a va Fa) (k : RelVs Z B w ρ b vb Fb) :
    RelVs Z B w ρ (a ++ b) (va ++ vb) (Fa ++ Fb) := by
  induction h with
  | nil => exact k
  | d h1 _ ih => rw [List.append_assoc]; exact .d h1 ih
  | sl h1 _ ih => exact .sl h1 ih
  | mp h1 _ ih => exact .mp h1 ih
  | agg h1 h2 _ _ ih => rw [List.append_assoc]; exact .agg h1 h2 ih
  | clo h1 _ _ ih => rw [List.append_assoc]; exact .clo h1 ih
  | tup h1 _ _ ih => rw [List.append_assoc]; exact .tup h1 ih
  | arr h1 h2 h3 h4 h5 _ _ ih => rw [List.append_assoc]; exact .arr h1 h2 h3 h4 h5 ih

theorem RelDs.cons_split {Z B : Zone} {w : World} {x : D} {ds : List D} {vs : List Value} {F : List Nat} (h : RelDs Z B w (x :: ds) vs F) :
    ∃ v vs' Fx G, vs = v :: vs' ∧ F = Fx ++ G ∧ RelD Z B w x v Fx ∧ RelDs Z B w ds vs' G := by
  cases h with
  | p h1 h2 => exact ⟨_, _, [], _, rfl, rfl, .p h1 .nil, h2⟩
  | none h1 => exact ⟨_, _, [], _, rfl, rfl, .none .nil, h1⟩
  | row h1 h2 h3 h4 h5 h6 h7 h8 => exact ⟨_, _, _, _, rfl, rfl, by simpa using RelDs.row h1 h2 h3 h4 h5 h6 h7 .nil, h8⟩
  | ptr h1 h2 h3 h4 h5 h6 => exact ⟨_, _, _, _, rfl, rfl, by simpa using RelDs.ptr h1 h2 h3 h4 h5 .nil, h6⟩

theorem RelVs.cons_split {Z B : Zone} {w : World} {ρ : Names} {x : V} {ds : List V} {vs : List Value} {F : List Nat} (h : RelVs Z B w ρ (x :: ds) vs F) :
    ∃ v vs' Fx G, vs = v :: vs' ∧ F = Fx ++ G ∧ RelV Z B w ρ x v Fx ∧ RelVs Z B w ρ ds vs' G := by
  cases h with
  | d h1 h2 => exact ⟨_, _, _, _, rfl, rfl, by simpa using RelVs.d h1 .nil, h2⟩
  | sl h1 h2 => exact ⟨_, _, [], _, rfl, rfl, .sl h1 .nil, h2⟩
  | mp h1 h2 => exact ⟨_, _, [], _, rfl, rfl, .mp h1 .nil, h2⟩
  | agg h1 h2 h3 => exact ⟨_, _, _, _, rfl, rfl, by simpa using RelVs.agg h1 h2 .nil, h3⟩
  | clo h1 h3 => exact ⟨_, _, _, _, rfl, rfl, by simpa using RelVs.clo h1 .nil, h3⟩
  | tup h1 h3 => exact ⟨_, _, _, _, rfl, rfl, by simpa using RelVs.tup h1 .nil, h3⟩
  | arr h1 h2 h3 h4 h5 h6 => exact ⟨_, _, _, _, rfl, rfl, by simpa using RelVs.arr h1 h2 h3 h4 h5 .nil, h6⟩

theorem RelDs.split {Z B : Zone} {w : World} : ∀ {a b : List D} {vs : List Value} {F : List Nat}, RelDs Z B w (a ++ b) vs F →
    ∃ va vb Fa Fb, vs = va ++ vb ∧ F = Fa ++ Fb ∧ RelDs Z B w a va Fa ∧ RelDs Z B w b vb Fb
  | [], b, vs, F, h => ⟨[], vs, [], F, rfl, rfl, .nil, h⟩
  | x :: a, b, vs, F, h => by
    obtain ⟨v, vs', Fx, G, rfl, rfl, h1, h2⟩ := RelDs.cons_split (ds := a ++ b) h
    obtain ⟨va, vb, Fa, Fb, rfl, rfl, h3, h4⟩ := RelDs.split h2
    exact ⟨v :: va, vb, Fx ++ Fa, Fb, rfl, by simp, RelDs.append h1 h3, h4⟩

theorem RelVs.split {Z B : Zone} {w : World} {ρ : Names} : ∀ {a b : List V} {vs : List Value} {F : List Nat}, RelVs Z B w ρ (a ++ b) vs F →
    ∃ va vb Fa Fb, vs = va ++ vb ∧ F = Fa ++ Fb ∧ RelVs Z B w ρ a va Fa ∧ RelVs Z B w ρ b vb Fb
  | [], b, vs, F, h => ⟨[], vs, [], F, rfl, rfl, .nil, h⟩
  | x :: a, b, vs, F, h => by
    obtain ⟨v, vs', Fx, G, rfl, rfl, h1, h2⟩ := RelVs.cons_split (ds := a ++ b) h
    obtain ⟨va, vb, Fa, Fb, rfl, rfl, h3, h4⟩ := RelVs.split h2
    exact ⟨v :: va, vb, Fx ++ Fa, Fb, rfl, by simp, RelVs.append h1 h3, h4⟩

/-- data as values, and back. -/
theorem RelVs.ofD {Z B : Zone} {w : World} {ρ : Names} {ds : List D} {vs : List Value} {F : List Nat} (h : RelDs Z B w ds vs F) : RelVs Z B w ρ (ds.map .d) vs F := by
  induction ds generalizing vs F with
  | nil => cases h; exact .nil
  | cons x ds ih =>
    obtain ⟨v, vs', Fx, G, rfl, rfl, h1, h2⟩ := RelDs.cons_split h
    exact .d h1 (ih h2)

theorem RelVs.toD {Z B : Zone} {w : World} {ρ : Names} : ∀ {ds : List D} {vs : List Value} {F : List Nat}, RelVs Z B w ρ (ds.map .d) vs F → RelDs Z B w ds vs F
  | [], vs, F, h => by cases h; exact .nil
  | x :: ds, vs, F, h => by
    cases h with
    | d h1 h2 => exact RelDs.append h1 (RelVs.toD h2)

theorem rangeAt_append {w : World} {b o : Nat} {us vs : List Value} : w.rangeAt b o (us ++ vs) ↔ w.rangeAt b o us ∧ w.rangeAt b (o + us.length) vs := by
  constructor
  · intro h
    refine ⟨fun j v hv => h j v ?_, fun j v hv => ?_⟩
    · rw [List.getElem?_append_left (List.getElem?_eq_some_iff.1 hv).1]; exact hv
    · have := h (us.length + j) v (by rw [List.getElem?_append_right (by omega)]; simpa using hv)
      simpa [Nat.add_assoc] using this
  · rintro ⟨h1, h2⟩ j v hv
    rcases Nat.lt_or_ge j us.length with h | h
    · rw [List.getElem?_append_left h] at hv; exact h1 j v hv
    · rw [List.getElem?_append_right h] at hv
      have := h2 (j - us.length) v hv
      rwa [Nat.add_assoc, Nat.add_sub_cancel' h] at this

theorem flatten_at {α : Type} {xs : List (List α)} {i : Nat} {row : List α} (h : xs[i]? = some row) :
    xs.flatten = (xs.take i).flatten ++ (row ++ (xs.drop (i + 1)).flatten) := by
  have hi := (List.getElem?_eq_some_iff.1 h).1
  have e : xs = xs.take i ++ row :: xs.drop (i + 1) := by
    have := List.getElem?_eq_some_iff.1 h
    rw [← this.2]
    simp
  conv => lhs; rw [e]
  simp

theorem flatten_length {α : Type} {s : Nat} : ∀ {xs : List (List α)}, (∀ x ∈ xs, x.length = s) → xs.flatten.length = xs.length * s
  | [], _ => by simp
  | x :: xs, h => by
    have := flatten_length (s := s) (xs := xs) (fun y hy => h y (by simp [hy]))
    simp [this, h x (by simp), Nat.add_mul]; omega

theorem flatten_take_length {α : Type} {s i : Nat} {xs : List (List α)} (h : ∀ x ∈ xs, x.length = s) (hi : i ≤ xs.length) : (xs.take i).flatten.length = i * s := by
  rw [flatten_length (s := s) (fun x hx => h x (List.mem_of_mem_take hx))]
  simp [Nat.min_eq_left hi]

end Go.Proofs.Ytdoboiiilcgbnaa.L
