/- WHAT IS PROVED: steps of the abstract state that turn memory: a store, a new block. Conditions: none. -/
import Derived.Test.YtdoboiiilcgbnaaL6
namespace Go.Proofs.Ytdoboiiilcgbnaa.L
set_option linter.unusedVariables false
set_option linter.unusedSimpArgs false

theorem heap_setCell (w : World) (a : Addr) (v : Value) (k : Nat) (h : k ≠ a.block) : (w.setCell a v).heap[k]? = w.heap[k]? := by
  simp only [World.setCell, Array.getElem?_modify]
  rw [if_neg (fun e => h e.symm)]

theorem setCells_heap (b : Nat) : ∀ (vs : List Value) (o : Nat) (w : World) (k : Nat), k ≠ b → (w.setCells b o vs).heap[k]? = w.heap[k]?
  | [], _, _, _, _ => rfl
  | v :: r, o, w, k, h => by
    rw [World.setCells, setCells_heap b r _ _ k h, heap_setCell w _ _ k (by simpa using h)]

theorem setCells_size (b : Nat) : ∀ (vs : List Value) (o : Nat) (w : World), (w.setCells b o vs).heap.size = w.heap.size
  | [], _, _ => rfl
  | v :: r, o, w => by rw [World.setCells, setCells_size b r]; simp

theorem setCells_os (b : Nat) : ∀ (vs : List Value) (o : Nat) (w : World), (w.setCells b o vs).os = w.os ∧ (w.setCells b o vs).tape = w.tape ∧ (w.setCells b o vs).output = w.output
  | [], _, _ => ⟨rfl, rfl, rfl⟩
  | v :: r, o, w => by rw [World.setCells]; exact setCells_os b r _ _

theorem setCell_blk {w : World} {a : Addr} {v : Value} {b n : Nat} (h : Blk w b n) : Blk (w.setCell a v) b n := by
  obtain ⟨arr, ty, fz, h1, h0, h2⟩ := h
  by_cases e : b = a.block
  · refine ⟨if a.spot.isSome then arr else arr.setIfInBounds a.off v, ty, fz, ?_, ?_, ?_⟩
    · simp only [World.setCell, Array.getElem?_modify]
      subst e
      simp [h1]
    · intro o ho
      apply h0
      split at ho
      · exact ho
      · simpa using ho
    · split
      · exact h2
      · simpa using h2
  · exact ⟨arr, ty, fz, by rw [heap_setCell w a v b e]; exact h1, h0, h2⟩

theorem setCells_blk (b : Nat) : ∀ (vs : List Value) (o : Nat) (w : World) (k n : Nat), Blk w k n → Blk (w.setCells b o vs) k n
  | [], _, _, _, _, h => h
  | v :: r, o, w, k, n, h => by rw [World.setCells]; exact setCells_blk b r _ _ k n (setCell_blk h)

theorem grow_setCells (w : World) (b o : Nat) (vs : List Value) : Grow w (w.setCells b o vs) :=
  ⟨(setCells_os b vs o w).1, (setCells_os b vs o w).2.1, (setCells_os b vs o w).2.2, Nat.le_of_eq (setCells_size b vs o w).symm, fun k n h => setCells_blk b vs o w k n h⟩

theorem alloc_heap {w : World} {o : Obj} {k : Nat} (h : k < w.heap.size) : (w.alloc o).heap[k]? = w.heap[k]? := by
  simp only [World.alloc, Array.getElem?_push]
  rw [if_neg (by omega)]

theorem grow_alloc (w : World) (o : Obj) : Grow w (w.alloc o) :=
  ⟨rfl, rfl, rfl, by simp, fun b n h => h.same (alloc_heap h.lt)⟩

theorem grow_drew (w : World) : Grow w w.drew := ⟨rfl, rfl, rfl, Nat.le_refl _, fun _ _ h => h⟩

theorem blk_alloc (w : World) (arr : Array Value) (ty : TypeId) : Blk (w.alloc (.cells arr ty)) w.heap.size arr.size :=
  ⟨arr, ty, (0, 0), by simp only [World.alloc, Array.getElem?_push]; simp, by simp, Nat.le_refl _⟩

theorem rangeAt_alloc_new (w : World) (us : List Value) (rest : Array Value) (ty : TypeId) : (w.alloc (.cells (us.toArray ++ rest) ty)).rangeAt w.heap.size 0 us := by
  intro j v hv
  have hj := (List.getElem?_eq_some_iff.1 hv).1
  rw [Nat.zero_add, World.cell?_alloc_new, Array.getElem?_append_left (by simpa using hj)]
  simpa using hv

section
variable {Γ : Ctx} {Z B : Zone} {ρ : Names} {F : Ix → List Nat} {N : Nat → Prop} {st st' : St} {ps : List V} {vals : List Value} {X : List Nat} {tm : Array Value} {w : World}

theorem SatF.drew (h : SatF Γ Z B ρ F N st ps vals X tm w) : SatF Γ Z B ρ F N st ps vals X tm w.drew :=
  h.step [] (by simp) (grow_drew w) (fun _ _ _ => rfl) (fun _ _ => rfl) (fun _ _ => rfl) (fun _ _ hs => ⟨hs, rfl⟩) (fun _ => ⟨rfl, rfl, rfl⟩) (fun _ x => x) (fun _ _ => rfl)
    (fun _ x => x) (fun _ x => x) h.zB (fun _ x => .inl x) (fun _ x => .inl x) (by simp) (by simp) (by simp) (by simp) (by simp) (by simp)

theorem SatF.weakN {N' : Nat → Prop} (h : SatF Γ Z B ρ F N st ps vals X tm w) (hN : ∀ r, N r → N' r) : SatF Γ Z B ρ F N' st ps vals X tm w :=
  h.ghost [] (by simp) (fun _ _ => rfl) (fun _ _ => rfl) (fun _ => ⟨rfl, rfl, rfl⟩) hN (fun _ _ => rfl) (by simp) (by simp) (by simp) (by simp) (by simp) (by simp)

/-- What is at hand in the front goes. -/
theorem SatF.drop {v : V} {val : Value} (h : SatF Γ Z B ρ F N st (v :: ps) (val :: vals) X tm w) : ∃ F', SatF Γ Z B ρ F' N st ps vals X tm w := by
  obtain ⟨⟨Fp, p1, p2⟩, p3⟩ := h.pend
  obtain ⟨v', vs', Fx, G, e, rfl, q1, q2⟩ := p2.cons_split
  cases e
  obtain ⟨F', _, h'⟩ := h.rehand (ps' := ps) (vals' := vals) (X' := X) (Fp' := G) q2 p3.2
    (by rw [p1]; intro hh; rw [List.nodup_iff_count] at hh ⊢; intro t; have hh := hh t; simp only [List.count_append, List.count_cons, List.count_nil] at hh ⊢; omega)
    (by rw [p1]; intro x hx; simp only [List.mem_append, List.mem_cons] at hx ⊢; grind)
  exact ⟨F', h'⟩

theorem SatF.dropX (h : SatF Γ Z B ρ F N st ps vals X tm w) : ∃ F', SatF Γ Z B ρ F' N st ps vals [] tm w := by
  obtain ⟨⟨Fp, p1, p2⟩, p3⟩ := h.pend
  obtain ⟨F', _, h'⟩ := h.rehand (ps' := ps) (vals' := vals) (X' := []) (Fp' := Fp) p2 p3
    (by rw [p1]; intro hh; rw [List.nodup_iff_count] at hh ⊢; intro t; have hh := hh t; simp only [List.count_append, List.count_cons, List.count_nil] at hh ⊢; omega)
    (by rw [p1]; intro x hx; simp only [List.mem_append, List.mem_cons] at hx ⊢; grind)
  exact ⟨F', h'⟩

/-- A part of what is at hand goes to the front. -/
theorem SatF.front {pre mid : List V} {va vm vc : List Value} (h : SatF Γ Z B ρ F N st (pre ++ (mid ++ ps)) (va ++ (vm ++ vc)) X tm w) (la : va.length = pre.length) (lm : vm.length = mid.length) :
    ∃ F', SatF Γ Z B ρ F' N st (mid ++ (pre ++ ps)) (vm ++ (va ++ vc)) X tm w := by
  obtain ⟨Fa, Fm, Fc, e', q1, q2, q3, n1, n2, n3⟩ := h.partsAt la lm
  obtain ⟨F', _, h'⟩ := h.rehand (ps' := mid ++ (pre ++ ps)) (vals' := vm ++ (va ++ vc)) (X' := X) (Fp' := Fm ++ (Fa ++ Fc)) (RelVs.append q2 (RelVs.append q1 q3))
    (by rw [inNs_append, inNs_append]; exact ⟨n2, n1, n3⟩)
    (by rw [e']; intro hh; rw [List.nodup_iff_count] at hh ⊢; intro t; have hh := hh t; simp only [List.count_append, List.count_cons, List.count_nil] at hh ⊢; omega)
    (by rw [e']; intro x hx; simp only [List.mem_append, List.mem_cons] at hx ⊢; grind)
  exact ⟨F', h'⟩

theorem SatF.swap {a b : V} {va vb : Value} (h : SatF Γ Z B ρ F N st (a :: b :: ps) (va :: vb :: vals) X tm w) : ∃ F', SatF Γ Z B ρ F' N st (b :: a :: ps) (vb :: va :: vals) X tm w :=
  SatF.front (pre := [a]) (mid := [b]) (va := [va]) (vm := [vb]) h rfl rfl

theorem setSeg_length {α : Type} {row : List α} {j : Nat} {cs : List α} (h : j + cs.length ≤ row.length) : (setSeg row j cs).length = row.length := by
  simp [setSeg]; omega

theorem mem_set_length {α : Type} {s i : Nat} {xs : List (List α)} {r : List α} (h : ∀ x ∈ xs, x.length = s) (hr : r.length = s) : ∀ x ∈ xs.set i r, x.length = s := by
  intro x hx
  rcases List.mem_or_eq_of_mem_set hx with h1 | h1
  · exact h x h1
  · rw [h1]; exact hr

theorem flatten_set {α : Type} {xs : List (List α)} {i : Nat} {row row' : List α} (h : xs[i]? = some row) :
    (xs.set i row').flatten = (xs.take i).flatten ++ (row' ++ (xs.drop (i + 1)).flatten) := by
  have hi := (List.getElem?_eq_some_iff.1 h).1
  have e : (xs.set i row')[i]? = some row' := by simp [hi]
  rw [flatten_at e]
  congr 2
  · rw [List.take_set_of_le (Nat.le_refl _)]
  · rw [List.drop_set_of_lt (by omega)]

/-- The object behind a name that has an address. -/
theorem SatF.objAt {r s b o : Nat} {xs : List (List V)} (h : SatF Γ Z B ρ F N st ps vals X tm w) (hs : st (.r r) = some (.o s xs)) (hρ : ρ r = some ⟨b, o, none⟩) :
    ∃ us G, F (some (.r r)) = b :: G ∧ RelVs Z B w ρ xs.flatten us G ∧ (∀ v ∈ us, v.oneCell' = true) ∧ w.rangeAt b o us ∧ Blk w b (o + xs.length * s) ∧ (∀ x ∈ xs, x.length = s) ∧ V.inNss N xs := by
  obtain ⟨hN, hO, hin⟩ := h.obj r _ hs
  generalize hG : F (some (.r r)) = G at hO
  cases hO with
  | none h1 => rw [hρ] at h1; cases h1
  | some h1 h2 h3 h4 h5 h6 =>
    rw [hρ] at h1
    cases h1
    exact ⟨_, _, rfl, h2, h3, h4, h5, h6, hin⟩

/-- A segment of a row of an object: its cells in memory. -/
theorem seg_of {s o b i j n : Nat} {xs : List (List V)} {row : List V} {us : List Value} {G : List Nat} (hrel : RelVs Z B w ρ xs.flatten us G) (hrange : w.rangeAt b o us)
    (huni : ∀ x ∈ xs, x.length = s) (hrow : xs[i]? = some row) (hj : j + n ≤ row.length) :
    ∃ u1 u2 u3 G1 G2 G3, us = u1 ++ (u2 ++ u3) ∧ G = G1 ++ (G2 ++ G3) ∧ u1.length = i * s + j ∧
      xs.flatten = ((xs.take i).flatten ++ row.take j) ++ ((row.drop j).take n ++ (row.drop (j + n) ++ (xs.drop (i + 1)).flatten)) ∧
      RelVs Z B w ρ ((xs.take i).flatten ++ row.take j) u1 G1 ∧ RelVs Z B w ρ ((row.drop j).take n) u2 G2 ∧ RelVs Z B w ρ (row.drop (j + n) ++ (xs.drop (i + 1)).flatten) u3 G3 ∧
      w.rangeAt b (o + i * s + j) u2 := by
  have hi := (List.getElem?_eq_some_iff.1 hrow).1
  have e : xs.flatten = ((xs.take i).flatten ++ row.take j) ++ ((row.drop j).take n ++ (row.drop (j + n) ++ (xs.drop (i + 1)).flatten)) := by
    rw [flatten_at hrow]
    simp only [List.append_assoc]
    congr 1
    rw [← List.append_assoc (List.take n _), ← List.drop_drop (i := n) (l := row), List.take_append_drop, ← List.append_assoc, List.take_append_drop]
  rw [e] at hrel
  obtain ⟨u1, u23, G1, G23, rfl, rfl, k1, k23⟩ := hrel.split
  obtain ⟨u2, u3, G2, G3, rfl, rfl, k2, k3⟩ := k23.split
  have hl : u1.length = i * s + j := by
    rw [← k1.length, List.length_append, flatten_take_length huni (by omega), List.length_take]
    omega
  rw [rangeAt_append, rangeAt_append, hl] at hrange
  exact ⟨u1, u2, u3, G1, G2, G3, rfl, rfl, hl, e, k1, k2, k3, by rw [Nat.add_assoc]; exact hrange.2.1⟩

theorem nodup_drop_mid {a m c x g1 g2 g3 : List Nat} {b : Nat} (h : (((a ++ m) ++ x) ++ (b :: (g1 ++ (g2 ++ g3)))).Nodup) : ((m ++ x) ++ (b :: (g1 ++ (a ++ g3)))).Nodup := by
  rw [List.nodup_iff_count] at h ⊢; intro t; have h := h t; simp only [List.count_append, List.count_cons, List.count_nil] at h ⊢; omega

/-- A STORE into an object, cells as one list. -/
theorem SatF.writeF {r s b o : Nat} {xs xs' : List (List V)} {A M C cs : List V} {us : List Value} {vc : List Value} (h : SatF Γ Z B ρ F N st (cs ++ ps) (us ++ vc) X tm w)
    (hs : st (.r r) = some (.o s xs)) (hρ : ρ r = some ⟨b, o, none⟩) (hxs : xs.flatten = A ++ (M ++ C)) (hxs' : xs'.flatten = A ++ (cs ++ C)) (hM : M.length = cs.length) (hlen : xs'.length = xs.length)
    (huni' : ∀ x ∈ xs', x.length = s) (hinset : V.inNs N cs → V.inNss N xs → V.inNss N xs') (hone : ∀ u ∈ us, u.oneCell' = true) (hl : us.length = cs.length) :
    w.there b (o + A.length) us.length ∧ ∃ F', SatF Γ Z B ρ F' N (upd st (.r r) (some (.o s xs'))) ps vc X tm (w.setCells b (o + A.length) us) := by
  obtain ⟨vs, G, hF, hrel, h1, hrange, hblk, huni, hin⟩ := h.objAt hs hρ
  have hfl := flatten_length huni
  rw [hxs] at hrel hfl
  obtain ⟨u1, u23, G1, G23, rfl, rfl, k1, k23⟩ := hrel.split
  obtain ⟨u2, u3, G2, G3, rfl, rfl, k2, k3⟩ := k23.split
  have hl1 : u1.length = A.length := k1.length.symm
  have hbound : o + A.length + us.length ≤ o + xs.length * s := by
    simp only [List.length_append] at hfl
    omega
  have hthere := hblk.there hbound
  refine ⟨hthere, ?_⟩
  obtain ⟨va, vm, vc', Fa, Fm, Fc, e1, e2, q1, q2, q3, n1, n2, n3⟩ := SatF.parts (pre := []) (mid := cs) (ps := ps) (by simpa using h)
  cases q1
  have e1' := List.append_inj (by simpa using e1) (by rw [hl, q2.length])
  obtain ⟨rfl, rfl⟩ := e1'
  have hnd := h.nd (xs := [none, some (.r r)]) (by simp)
  simp only [List.flatMap_cons, List.flatMap_nil, List.append_nil, e2, hF, List.nil_append] at hnd
  have hl2 : u2.length = us.length := by rw [← k2.length, hM, hl]
  have same : ∀ k, k ≠ b → (w.setCells b (o + A.length) us).heap[k]? = w.heap[k]? := fun k hk => setCells_heap b us _ w k hk
  have hbF : ∀ x ∈ Fm ++ Fc ++ X, x ≠ b := by
    intro x hx e
    subst e
    rw [List.nodup_append] at hnd
    exact hnd.2.2 x hx x (by simp) rfl
  have hbG : ∀ x ∈ G1 ++ (G2 ++ G3), x ≠ b := by
    intro x hx e
    subst e
    rw [List.nodup_append] at hnd
    have := hnd.2.1
    rw [List.nodup_cons] at this
    exact this.1 hx
  have hZb : ∀ k, B k → k ≠ b := by
    intro k hk e
    subst e
    exact (h.own (some (.r r)) k (by rw [hF]; simp)).1 hk
  have mono : ∀ {ds : List V} {vs : List Value} {G : List Nat}, RelVs Z B w ρ ds vs G → V.inNs N ds → (∀ x ∈ G, x ≠ b) → RelVs Z B (w.setCells b (o + A.length) us) ρ ds vs G := by
    intro ds vs G h1 h2 h3
    exact h1.mono h2 (fun _ _ => rfl) (fun x hx => same x (h3 x hx)) (fun x hx => same x (hZb x (h.zB x hx))) (fun x hx => same x (hZb x hx)) (fun _ x => x) (fun _ x => x) (fun k n hk => setCells_blk b us _ w k n hk)
  refine ⟨fun x => if x = none then Fc ++ X else if x = some (.r r) then b :: (G1 ++ (Fm ++ G3)) else F x, ?_⟩
  refine h.step [none, some (.r r)] (by simp) (grow_setCells _ _ _ _) ?_ ?_ ?_ (fun _ _ hs => ⟨hs, rfl⟩) (by simp) (fun _ x => x) (fun _ _ => rfl)
    (fun _ x => x) (fun _ x => x) h.zB (fun _ x => .inl x) (fun _ x => .inl x) ?_ ?_ ?_ ?_ ?_ ?_
  · intro k hk hn
    refine same k (fun e => hn ?_)
    subst e
    simp [hF]
  · intro x hx
    simp only [List.mem_cons, reduceCtorEq, Option.some.injEq, List.not_mem_nil, or_false, false_or] at hx
    simp [upd, hx]
  · intro x hx
    simp only [List.mem_cons, List.not_mem_nil, or_false, not_or] at hx
    simp [hx.1, hx.2]
  · intro s c hs; simp at hs
  · intro r' c hs' hc
    simp only [List.mem_cons, reduceCtorEq, Option.some.injEq, Res.r.injEq, List.not_mem_nil, or_false, false_or] at hs'
    subst hs'
    simp [upd] at hc
    subst hc
    refine ⟨(h.obj _ _ hs).1, ?_, hinset n2 hin⟩
    simp only [reduceCtorEq, if_false, if_true]
    have hinfl := inNss_flatten hin
    rw [hxs, inNs_append, inNs_append] at hinfl
    refine .some (vs := u1 ++ (us ++ u3)) hρ ?_ ?_ ?_ ?_ huni'
    · rw [hxs']
      exact RelVs.append (mono k1 hinfl.1 (fun x hx => hbG x (by simp [hx]))) (RelVs.append (mono q2 n2 (fun x hx => hbF x (by simp [hx]))) (mono k3 hinfl.2.2 (fun x hx => hbG x (by simp [hx]))))
    · intro v hv
      simp only [List.mem_append] at hv
      rcases hv with hv | hv | hv
      · exact h1 v (by simp [hv])
      · exact hone v hv
      · exact h1 v (by simp [hv])
    · have hr' := hrange
      rw [rangeAt_append, rangeAt_append, hl1, hl2] at hr'
      rw [rangeAt_append, rangeAt_append, hl1]
      refine ⟨World.rangeAt_setCells_apart hr'.1 _ _ _ (.inr (.inl (by rw [hl1]; omega))), ?_, World.rangeAt_setCells_apart hr'.2.2 _ _ _ (.inr (.inr (by omega)))⟩
      exact World.rangeAt_setCells_same w b (o + A.length) us hthere
    · rw [hlen]; exact setCells_blk b us _ w _ _ hblk
  · intro _
    refine ⟨⟨Fc, by simp, ?_⟩, n3⟩
    exact mono q3 n3 (fun x hx => hbF x (by simp [hx]))
  · intro x hx hn
    simp only [List.mem_cons, reduceCtorEq, Option.some.injEq, List.not_mem_nil, or_false, false_or] at hx
    subst hx
    simp [upd] at hn
  · simp only [List.flatMap_cons, List.flatMap_nil, List.append_nil, if_true, reduceCtorEq, if_false]
    exact nodup_drop_mid (c := []) hnd
  · intro k hk
    simp only [List.flatMap_cons, List.flatMap_nil, List.append_nil, if_true, reduceCtorEq, if_false, List.mem_append, List.mem_cons] at hk
    have hmem : k ∈ F none ∨ k ∈ F (some (.r r)) := by
      rw [e2, hF]
      simp only [List.mem_append, List.mem_cons]
      grind
    refine ⟨.inl ?_, ?_⟩
    · simp only [List.flatMap_cons, List.flatMap_nil, List.append_nil, List.mem_append]
      exact hmem
    · rcases hmem with hm | hm
      · exact ⟨by rw [setCells_size]; exact (h.own _ k hm).2.1, (h.own _ k hm).1⟩
      · exact ⟨by rw [setCells_size]; exact (h.own _ k hm).2.1, (h.own _ k hm).1⟩

theorem row_parts {s i j n : Nat} {xs : List (List V)} {row : List V} (huni : ∀ x ∈ xs, x.length = s) (hrow : xs[i]? = some row) (hj : j + n ≤ row.length) :
    xs.flatten = ((xs.take i).flatten ++ row.take j) ++ ((row.drop j).take n ++ (row.drop (j + n) ++ (xs.drop (i + 1)).flatten)) ∧ ((xs.take i).flatten ++ row.take j).length = i * s + j := by
  have hi := (List.getElem?_eq_some_iff.1 hrow).1
  constructor
  · rw [flatten_at hrow]
    simp only [List.append_assoc]
    congr 1
    rw [← List.append_assoc (List.take n _), ← List.drop_drop (i := n) (l := row), List.take_append_drop, ← List.append_assoc, List.take_append_drop]
  · rw [List.length_append, flatten_take_length huni (by omega), List.length_take]
    omega

/-- A STORE into a row of an object. -/
theorem SatF.write {r s b o i j : Nat} {xs : List (List V)} {row cs : List V} {us : List Value} {vc : List Value} (h : SatF Γ Z B ρ F N st (cs ++ ps) (us ++ vc) X tm w)
    (hs : st (.r r) = some (.o s xs)) (hρ : ρ r = some ⟨b, o, none⟩) (hrow : xs[i]? = some row) (hj : j + cs.length ≤ row.length) (hone : ∀ u ∈ us, u.oneCell' = true) (hl : us.length = cs.length) :
    w.there b (o + i * s + j) us.length ∧ ∃ F', SatF Γ Z B ρ F' N (upd st (.r r) (some (.o s (xs.set i (setSeg row j cs))))) ps vc X tm (w.setCells b (o + i * s + j) us) := by
  obtain ⟨vs, G, hF, hrel, h1, hrange, hblk, huni, hin⟩ := h.objAt hs hρ
  obtain ⟨e1, e2⟩ := row_parts (n := cs.length) huni hrow hj
  have hrl : row.length = s := huni row (List.mem_of_getElem? hrow)
  have := h.writeF (A := (xs.take i).flatten ++ row.take j) (M := (row.drop j).take cs.length) (C := row.drop (j + cs.length) ++ (xs.drop (i + 1)).flatten) (xs' := xs.set i (setSeg row j cs)) hs hρ e1
    (by rw [flatten_set hrow]; simp [setSeg]) (by simp; omega) (by simp) (mem_set_length huni (by rw [setSeg_length hj]; exact hrl))
    (fun n2 hin => inNss_iff.2 fun x hx => by
      have hinrow : V.inNs N row := inNss_iff.1 hin row (List.mem_of_getElem? hrow)
      rcases List.mem_or_eq_of_mem_set hx with h1 | h1
      · exact inNss_iff.1 hin x h1
      · rw [h1]
        simp only [setSeg]
        rw [inNs_append, inNs_append]
        rw [inNs_iff] at hinrow
        exact ⟨⟨inNs_iff.2 fun x hx => hinrow x (List.mem_of_mem_take hx), n2⟩, inNs_iff.2 fun x hx => hinrow x (List.mem_of_mem_drop hx)⟩) hone hl
  rw [e2] at this
  simpa [Nat.add_assoc] using this

/-- A NEW BLOCK: what is at hand and lies in it comes to be one value. -/
theorem SatF.freshG {cs : List V} {us : List Value} {vc : List Value} {v : V} {val : Value} {w' : World} {cap : Nat}
    (h : SatF Γ Z B ρ F N st (cs ++ ps) (us ++ vc) X tm w) (hl : us.length = cs.length)
    (hg : Grow w w') (hsame : ∀ k, k < w.heap.size → w'.heap[k]? = w.heap[k]?) (hrange : w'.rangeAt w.heap.size 0 us) (hblk : Blk w' w.heap.size cap)
    (hv : ∀ G, RelVs Z B w' ρ cs us G → RelVs Z B w' ρ [v] [val] (w.heap.size :: G)) (hn : V.inNs N cs → v.inN N) :
    ∃ F', SatF Γ Z B ρ F' N st (v :: ps) (val :: vc) X tm w' := by
  obtain ⟨va, vm, vc', Fa, Fm, Fc, e1, e2, q1, q2, q3, n1, n2, n3⟩ := SatF.parts (pre := []) (mid := cs) (ps := ps) (by simpa using h)
  cases q1
  have e1' := List.append_inj (by simpa using e1) (by rw [hl, q2.length])
  obtain ⟨rfl, rfl⟩ := e1'
  have hnd := h.nodup none
  have hlt : ∀ k ∈ F none, k < w.heap.size := fun k hk => (h.own none k hk).2.1
  rw [e2] at hnd hlt
  have mono : ∀ {ds : List V} {vs : List Value} {G : List Nat}, RelVs Z B w ρ ds vs G → V.inNs N ds → (∀ x ∈ G, x < w.heap.size) → RelVs Z B w' ρ ds vs G := by
    intro ds vs G h1 h2 h3
    exact h1.mono h2 (fun _ _ => rfl) (fun x hx => hsame x (h3 x hx)) (fun x hx => hsame x (h.zone x (h.zB x hx))) (fun x hx => hsame x (h.zone x hx)) (fun _ x => x) (fun _ x => x) hg.blk
  have hnew := hv Fm (mono q2 n2 (fun x hx => hlt x (by simp [hx])))
  refine ⟨fun x => if x = none then ((w.heap.size :: Fm) ++ Fc) ++ X else F x, ?_⟩
  refine h.step [none] (by simp) hg (fun k hk _ => hsame k hk) (fun _ _ => rfl) ?_ (fun _ _ hs => ⟨hs, rfl⟩) (by simp) (fun _ x => x) (fun _ _ => rfl)
    (fun _ x => x) (fun _ x => x) h.zB (fun _ x => .inl x) (fun _ x => .inl x) (by simp) (by simp) ?_ (by simp) ?_ ?_
  · intro x hx
    simp only [List.mem_cons, List.not_mem_nil, or_false] at hx
    simp [hx]
  · intro _
    refine ⟨⟨(w.heap.size :: Fm) ++ Fc, by simp, ?_⟩, hn n2, n3⟩
    exact RelVs.append hnew (mono q3 n3 (fun x hx => hlt x (by simp [hx])))
  · simp only [List.flatMap_cons, List.flatMap_nil, List.append_nil, if_true, List.cons_append]
    rw [List.nodup_cons]
    refine ⟨fun hm => ?_, by simpa using hnd⟩
    have := hlt w.heap.size (by simpa using hm)
    omega
  · intro k hk
    simp only [List.flatMap_cons, List.flatMap_nil, List.append_nil, if_true, List.cons_append, List.mem_cons] at hk
    have hB : ∀ k, B k → k < w.heap.size := h.zone
    rcases hk with rfl | hk
    · exact ⟨.inr (Nat.le_refl _), hblk.lt, fun hb => absurd (hB _ hb) (by omega)⟩
    · have hm : k ∈ F none := by rw [e2]; simpa using hk
      exact ⟨.inl (by simpa using hm), Nat.lt_of_lt_of_le (h.own none k hm).2.1 hg.size, (h.own none k hm).1⟩

theorem SatF.fresh {cs : List V} {us : List Value} {vc : List Value} {rest : Array Value} {ty : TypeId} {v : V} {val : Value}
    (h : SatF Γ Z B ρ F N st (cs ++ ps) (us ++ vc) X tm w) (hl : us.length = cs.length)
    (hv : ∀ w' G, Grow w w' → RelVs Z B w' ρ cs us G → w'.rangeAt w.heap.size 0 us → Blk w' w.heap.size (us.length + rest.size) → RelVs Z B w' ρ [v] [val] (w.heap.size :: G)) (hn : V.inNs N cs → v.inN N) :
    ∃ F', SatF Γ Z B ρ F' N st (v :: ps) (val :: vc) X tm (w.alloc (.cells (us.toArray ++ rest) ty)) := by
  have hg := grow_alloc w (.cells (us.toArray ++ rest) ty)
  have hblk : Blk (w.alloc (.cells (us.toArray ++ rest) ty)) w.heap.size (us.length + rest.size) := by
    have := blk_alloc w (us.toArray ++ rest) ty
    simpa using this
  exact h.freshG hl hg (fun k hk => alloc_heap hk) (rangeAt_alloc_new w us rest ty) hblk (fun G hG => hv _ G hg hG (rangeAt_alloc_new w us rest ty) hblk) hn

end
end Go.Proofs.Ytdoboiiilcgbnaa.L
