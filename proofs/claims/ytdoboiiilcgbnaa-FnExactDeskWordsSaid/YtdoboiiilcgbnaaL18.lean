/- WHAT IS PROVED: a call of a function that has a contract. Conditions: none. -/
import Derived.Test.YtdoboiiilcgbnaaL17
namespace Go.Proofs.Ytdoboiiilcgbnaa.L
set_option linter.unusedVariables false
set_option linter.unusedSimpArgs false

section
variable {P : Program} {Γ : Ctx} {Z B : Zone} {ρ : Names} {F : Ix → List Nat} {N : Nat → Prop} {st st' : St} {ps : List V} {vals : List Value} {X : List Nat} {tm : Array Value} {w : World}

theorem unddR_map : ∀ {r : List V} {d : List D}, undd.unddR r = some d → r = d.map V.d := by
  intro r
  induction r with
  | nil => intro d h; simp [undd.unddR] at h; subst h; rfl
  | cons x r ih =>
    intro d h
    cases x <;> simp [undd.unddR] at h
    obtain ⟨a, h1, rfl⟩ := h
    simp [ih h1]

mutual
theorem inN_true : ∀ v : V, v.inN fun _ => True
  | .d _ => trivial
  | .sl _ _ _ _ => trivial
  | .mp _ _ _ _ => trivial
  | .agg cs => inNs_true cs
  | .clo _ cs => inNs_true cs
  | .tup cs => inNs_true cs
  | .arr _ xs => inNss_true xs
theorem inNs_true : ∀ v : List V, V.inNs (fun _ => True) v
  | [] => trivial
  | x :: xs => ⟨inN_true x, inNs_true xs⟩
theorem inNss_true : ∀ v : List (List V), V.inNss (fun _ => True) v
  | [] => trivial
  | x :: xs => ⟨inNs_true x, inNss_true xs⟩
end

/-- What is handed in, as the callee sees it. -/
theorem args_in {π : Nat → Nat} {L : Nat → Prop} {k : Nat} {B2 : Zone} (h : SatF Γ Z B ρ F N st ps vals X tm w)
    (hB2 : ∀ b, B b → B2 b) (hL : ∀ r b, L r → b ∈ F (some (.r r)) → B2 b) :
    ∀ {xs ys : List V} {vs : List Value} {G : List Nat}, ArgOk st π L xs ys → RelVs Z B w ρ xs vs G → V.inNs (· < k) ys → ∃ G', RelVs Z B2 w (fun i => ρ (π i)) ys vs G' ∧ (∀ b, G'.count b ≤ G.count b) := by
  have self : ∀ {ds : List V} {vs : List Value} {G : List Nat}, RelVs Z B w ρ ds vs G → RelVs Z B2 w ρ ds vs G := fun h1 =>
    h1.mono (N := fun _ => True) (inNs_true _) (fun _ _ => rfl) (fun _ _ => rfl) (fun _ _ => rfl) (fun _ _ => rfl) (fun _ x => x) hB2 (fun _ _ x => x)
  intro xs ys vs G ha
  induction ha generalizing vs G with
  | nil =>
    intro hr _
    cases hr
    exact ⟨[], .nil, by simp⟩
  | @ren y xs ys ha ih =>
    intro hr hn
    obtain ⟨v, vs', G1, G2, rfl, rfl, k1, k2⟩ := hr.cons_split
    obtain ⟨G', h1, h2⟩ := ih k2 hn.2
    have h3 : RelVs Z B2 w (fun i => ρ (π i)) [y] [v] G1 := RelVs.unren (π := π) (N := (· < k)) (self k1) [y] rfl ⟨hn.1, trivial⟩ (fun _ _ => rfl)
    exact ⟨G1 ++ G', RelVs.append h3 h1, fun b => by simp only [List.count_append]; have := h2 b; omega⟩
  | @d x xs ys hx ha ih =>
    intro hr hn
    obtain ⟨v, vs', G1, G2, rfl, rfl, k1, k2⟩ := hr.cons_split
    obtain ⟨G', h1, h2⟩ := ih k2 hn.2
    have e : G1 = [] := lin_V k1 (by simp [V.linL, V.lin, hx])
    subst e
    have q : RelDs Z B w [x] [v] [] := RelVs.toD (ds := [x]) k1
    have q2 := q.lend (B2 := B2) (by simp) hB2 (fun b hb => hB2 b (h.zB b hb))
    have h3 : RelVs Z B2 w (fun i => ρ (π i)) [.d x.lend] [v] [] := RelVs.ofD (ds := [x.lend]) q2
    exact ⟨[] ++ G', RelVs.append h3 h1, fun b => by have := h2 b; simpa using this⟩
  | @agg as bs xs ys ha1 ha ih1 ih =>
    intro hr hn
    obtain ⟨v, vs', G1, G2, rfl, rfl, k1, k2⟩ := hr.cons_split
    obtain ⟨G', h1, h2⟩ := ih k2 hn.2
    cases k1 with
    | agg t1 t2 t3 =>
      cases t3
      obtain ⟨G3, h3, h4⟩ := ih1 t1 hn.1
      have := RelVs.agg h3 t2 h1
      exact ⟨G3 ++ G', this, fun b => by have := h2 b; have := h4 b; simp only [List.count_append, List.count_nil]; omega⟩
  | @sl r s i n rs ds xs ys hl hs hi hu ha ih =>
    intro hr hn
    obtain ⟨v, vs', G1, G2, rfl, rfl, k1, k2⟩ := hr.cons_split
    obtain ⟨G', h1, h2⟩ := ih k2 hn.2
    have e1 := undd_spec hu
    have h3 : RelVs Z B2 w (fun i => ρ (π i)) [.d (.row .bor s (D.lendLL ds))] [v] [] := by
      have hlen : ds.length = n := by
        have := congrArg List.length e1
        rw [dd_length] at this
        simp at this
        omega
      have hll : (D.lendLL ds).length = n := by rw [D.lendLL_map, List.length_map, hlen]
      cases k1 with
      | @sl _ _ _ _ c A _ _ _ t1 t2 =>
        rcases t1 with ⟨a1, a2⟩ | ⟨b, o, a1, a2, a3, a4⟩
        · have : ds = [] := List.length_eq_zero_iff.1 (by omega)
          subst this
          subst a1; subst a2
          exact .d (.none .nil) .nil
        · obtain ⟨us, Gg, hF, hrel, h0, hrange, hblk, huni, hin⟩ := h.objAt hs a1
          rw [segs_of hi] at hrel
          obtain ⟨u1, u23, Ga, Gb, rfl, rfl, q1, q23⟩ := hrel.split
          obtain ⟨u2, u3, Gc, Gd, rfl, rfl, q2, q3⟩ := q23.split
          have hl1 : u1.length = i * s := by rw [← q1.length, flatten_take_length huni (by omega)]
          rw [rangeAt_append, rangeAt_append, hl1] at hrange
          rw [e1, dd_flatten] at q2
          have q2' := RelVs.toD q2
          have q4 := q2'.lend (B2 := B2) (fun x hx => hL r x hl (by rw [hF]; simp [hx])) hB2 (fun b hb => hB2 b (h.zB b hb))
          rw [D.lend_flatten] at q4
          subst a2
          have hrow := RelDs.row (m := .bor) (s := s) (c := c) q4 hrange.2.1 (hL r b hl (by rw [hF]; simp)) (fun e => by cases e) (fun _ => rfl) (by
            intro x hx
            rw [D.lendLL_map] at hx
            obtain ⟨y, hy, rfl⟩ := List.mem_map.1 hx
            have hm : y.map V.d ∈ dd ds := List.mem_map_of_mem hy
            rw [← e1] at hm
            have := huni _ (List.mem_of_mem_drop (List.mem_of_mem_take hm))
            simpa using this) (by rw [hll]; exact a4) .nil
          rw [hll] at hrow
          have := RelVs.d (ρ := fun i => ρ (π i)) hrow .nil
          simpa [Md.foot] using this
    exact ⟨[] ++ G', RelVs.append h3 h1, fun b => by simp only [List.count_append]; have := h2 b; simp; omega⟩
  | @mp r s i j rs row ds xs ys hl hs hi hj hu ha ih =>
    intro hr hn
    obtain ⟨v, vs', G1, G2, rfl, rfl, k1, k2⟩ := hr.cons_split
    obtain ⟨G', h1, h2⟩ := ih k2 hn.2
    have e1 := unddR_map hu
    have h3 : RelVs Z B2 w (fun i => ρ (π i)) [.d (.ptr .bor (D.lendL ds))] [v] [] := by
      cases k1 with
      | @mp _ _ _ _ b o _ _ _ t1 t2 =>
        obtain ⟨us, Gg, hF, hrel, h0, hrange, hblk, huni, hin⟩ := h.objAt hs t1
        obtain ⟨u1, u2, u3, Ga, Gb, Gc, rfl, rfl, hl1, e, q1, q2, q3, hr2⟩ := seg_of (row := row) (j := j) (n := row.length - j) hrel hrange huni hi (by omega)
        have e2 : (row.drop j).take (row.length - j) = row.drop j := List.take_of_length_le (by simp)
        rw [e2, e1] at q2
        have q4 := (RelVs.toD q2).lend (B2 := B2) (fun x hx => hL r x hl (by rw [hF]; simp [hx])) hB2 (fun b hb => hB2 b (h.zB b hb))
        have hrow := RelDs.ptr (m := .bor) q4 hr2 (hL r b hl (by rw [hF]; simp)) (fun e => by cases e) (fun _ => rfl) .nil
        have := RelVs.d (ρ := fun i => ρ (π i)) hrow .nil
        simpa [Md.foot] using this
    exact ⟨[] ++ G', RelVs.append h3 h1, fun b => by simp only [List.count_append]; have := h2 b; simp; omega⟩

theorem call_core {f : FuncId} {xs ys : List V} {objs objs' : List C} {v : V} {π : Nat → Nat} {L : Nat → Prop} {vc : List Value}
    (hc : Con P f ys objs v objs') (h : SatF Γ Z B ρ F N st (xs ++ ps) (vals ++ vc) X tm w) (hl : vals.length = xs.length)
    (ha : ArgOk st π L xs ys) (hobj : ∀ i c, objs[i]? = some c → st (.r (π i)) = some (c.ren π))
    (hinj : ∀ i j, i < objs.length → j < objs.length → π i = π j → i = j) (hapart : ∀ i, i < objs.length → ¬ L (π i))
    (hnb : (∀ r, ¬ L r) ∨ (v.nb = true ∧ ∀ c ∈ objs', c.nb = true))
    (hst : ∀ i c, objs'[i]? = some c → st' (.r (π i)) = some (c.ren π)) (hst' : ∀ x, (∀ i, i < objs.length → x ≠ .r (π i)) → st' x = st x) :
    Calls P f vals.toArray w fun e w' => ∃ val Z' B' F', e = .returned val ∧ SatF Γ Z' B' ρ F' N st' (v.ren π :: ps) (val :: vc) X tm w' := by
  classical
  obtain ⟨Fa, Fm, Fc, e0, q1, q2, q3, n1, n2, n3⟩ := SatF.partsAt (pre := []) (mid := xs) (ps := ps) (va := []) (vm := vals) (vc := vc) (by simpa using h) rfl hl
  cases q1
  simp only [List.nil_append] at e0
  let LB : Zone := fun b => ∃ r, L r ∧ b ∈ F (some (.r r))
  obtain ⟨G, g1, g2⟩ := args_in (π := π) (L := L) (k := objs.length) (B2 := fun b => B b ∨ LB b) h (fun _ x => .inl x) (fun r b h1 h2 => .inr ⟨r, h1, h2⟩) ha q2 hc.inA
  have gm : ∀ b, b ∈ G → b ∈ F none := fun b hb => by
    have h1 := List.count_pos_iff.2 hb
    have h2 := g2 b
    rw [e0]
    simp only [List.mem_append]
    exact .inl (.inl (List.count_pos_iff.1 (by omega)))
  let M : Zone := fun b => b ∈ G ∨ ∃ i, i < objs.length ∧ b ∈ F (some (.r (π i)))
  let Γ' : Ctx := { w0 := w, M := M, Z := Z, B := fun b => B b ∨ LB b, k := objs.length, ρ := fun i => ρ (π i) }
  let F' : Ix → List Nat := fun x => match x with
    | none => G
    | some (.s _) => []
    | some (.r i) => if i < objs.length then F (some (.r (π i))) else []
  have hLne : ∀ i, i < objs.length → ∀ r, L r → r ≠ π i := fun i hi r hr e => hapart i hi (e ▸ hr)
  have hstart : SatP Γ' (· < objs.length) (stO objs) ys vals #[] w := by
    refine ⟨Z, fun b => B b ∨ LB b, fun i => ρ (π i), F', ?_⟩
    refine ⟨?_, ?_, ?_, ?_, ?_, ?_, ?_, fun b hb => .inl (h.zB b hb), ?_, fun b hb => .inl hb, fun b hb => .inl hb, fun b hb => hb, fun b hb => hb, fun _ _ _ => rfl, Grow.refl w, fun _ _ => rfl, fun i hi => hi⟩
    · intro s c hs; cases hs
    · intro r c hs
      have hr : r < objs.length := (List.getElem?_eq_some_iff.1 hs).1
      obtain ⟨h1, h2, h3⟩ := h.obj (π r) _ (hobj r c hs)
      have hinc := hc.inO c (List.mem_of_getElem? hs)
      refine ⟨hr, ?_, hinc⟩
      simp only [F', hr, if_true]
      cases c with
      | v x => cases h2
      | o s rows =>
        simp only [C.ren] at h2
        generalize F (some (.r (π r))) = Fr at h2
        generalize hrr : V.renLL π rows = rows' at h2
        cases h2 with
        | none t1 =>
          have : rows = [] := by
            rw [V.renLL_map] at hrr
            simpa using hrr
          subst this
          exact .none t1
        | some t1 t2 t3 t4 t5 t6 =>
          subst hrr
          have hl : (V.renLL π rows).length = rows.length := by rw [V.renLL_map, List.length_map]
          rw [hl] at t5
          refine .some t1 ?_ t3 t4 t5 (by
            intro x hx
            have := t6 (x.map (V.ren π)) (by rw [V.renLL_map]; exact List.mem_map_of_mem hx)
            simpa using this)
          have t7 := RelVs.unren (ρ := fun i => ρ (π i)) t2 rows.flatten (V.ren_flatten π rows) (inNss_flatten hinc) (fun _ _ => rfl)
          exact t7.mono (N := (· < objs.length)) (inNss_flatten hinc) (fun _ _ => rfl) (fun _ _ => rfl) (fun _ _ => rfl) (fun _ _ => rfl) (fun _ x => x) (fun _ x => .inl x) (fun _ _ x => x)
    · exact ⟨⟨G, by simp [F'], g1⟩, hc.inA⟩
    · intro x hx
      cases x with
      | s n => rfl
      | r i =>
        have : ¬ i < objs.length := fun hi => by
          have : stO objs (.r i) = some objs[i] := List.getElem?_eq_getElem hi
          rw [this] at hx
          cases hx
        simp [F', this]
    · intro x
      cases x with
      | none =>
        have hh := h.nodup none
        rw [e0, List.nodup_iff_count] at hh
        show G.Nodup
        rw [List.nodup_iff_count]
        intro t
        have h1 := hh t
        have h2 := g2 t
        simp only [List.count_append] at h1
        omega
      | some x =>
        cases x with
        | s n => exact List.nodup_nil
        | r i =>
          simp only [F']
          split
          · exact h.nodup _
          · exact List.nodup_nil
    · intro x y hne b hb hby
      have key : ∀ x, b ∈ F' x → (x = none ∧ b ∈ F none) ∨ ∃ i, i < objs.length ∧ x = some (.r i) ∧ b ∈ F (some (.r (π i))) := by
        intro x hb
        cases x with
        | none => exact .inl ⟨rfl, gm b hb⟩
        | some x =>
          cases x with
          | s n => cases hb
          | r i =>
            simp only [F'] at hb
            split at hb
            · rename_i hi; exact .inr ⟨i, hi, rfl, hb⟩
            · cases hb
      rcases key x hb with ⟨rfl, h1⟩ | ⟨i, hi, rfl, h1⟩ <;> rcases key y hby with ⟨rfl, h2⟩ | ⟨j, hj, rfl, h2⟩
      · exact hne rfl
      · exact h.disj none (some (.r (π j))) (by simp) b h1 h2
      · exact h.disj none (some (.r (π i))) (by simp) b h2 h1
      · refine h.disj (some (.r (π i))) (some (.r (π j))) (fun e => hne ?_) b h1 h2
        simp only [Option.some.injEq, Res.r.injEq] at e
        rw [hinj i j hi hj e]
    · intro x b hb
      have key : (b ∈ F none ∨ ∃ i, i < objs.length ∧ b ∈ F (some (.r (π i)))) ∧ M b := by
        cases x with
        | none => exact ⟨.inl (gm b hb), .inl hb⟩
        | some x =>
          cases x with
          | s n => cases hb
          | r i =>
            simp only [F'] at hb
            split at hb
            · rename_i hi; exact ⟨.inr ⟨i, hi, hb⟩, .inr ⟨i, hi, hb⟩⟩
            · cases hb
      obtain ⟨k1, k2⟩ := key
      refine ⟨?_, ?_, .inl k2⟩
      · rintro (hB | ⟨r, hr, hbr⟩)
        · rcases k1 with k1 | ⟨i, hi, k1⟩
          · exact (h.own none b k1).1 hB
          · exact (h.own _ b k1).1 hB
        · rcases k1 with k1 | ⟨i, hi, k1⟩
          · exact h.disj none (some (.r r)) (by simp) b k1 hbr
          · exact h.disj (some (.r (π i))) (some (.r r)) (fun e => hLne i hi r hr (by simpa using e.symm)) b k1 hbr
      · rcases k1 with k1 | ⟨i, hi, k1⟩
        · exact (h.own none b k1).2.1
        · exact (h.own _ b k1).2.1
    · rintro b (hB | ⟨r, hr, hbr⟩)
      · exact h.zone b hB
      · exact (h.own _ b hbr).2.1
  refine Calls.mono (hc.call Γ' vals w rfl hstart) ?_
  rintro e w' ⟨val, N', rfl, Zc, Bc, ρc, Fc', hs⟩
  -- behind the call
  have hLout : ∀ b, LB b → ¬ M b := by
    rintro b ⟨r, hr, hbr⟩ (hm | ⟨i, hi, hm⟩)
    · exact h.disj none (some (.r r)) (by simp) b (gm b hm) hbr
    · exact h.disj (some (.r (π i))) (some (.r r)) (fun e => hLne i hi r hr (by simpa using e.symm)) b hm hbr
  have hLlt : ∀ b, LB b → b < w.heap.size := fun b ⟨r, _, hbr⟩ => (h.own _ b hbr).2.1
  have hLB : ∀ b, LB b → ¬ B b := fun b ⟨r, _, hbr⟩ => (h.own _ b hbr).1
  have hZL : ∀ b, Zc b → ¬ LB b := by
    intro b hz hb
    rcases hs.zOld b hz with h1 | h1 | h1
    · exact hLB b hb (h.zB b h1)
    · exact hLout b hb h1
    · exact absurd (hLlt b hb) (by simpa [Γ'] using Nat.not_lt.2 h1)
  have turn : ∀ {ds : List V} {vs : List Value} {G : List Nat}, RelVs Zc Bc w' ρc ds vs G → V.inNs (· < objs.length) ds → ((∀ r, ¬ L r) ∨ V.nbL ds = true) →
      RelVs Zc (fun b => Bc b ∧ ¬ LB b) w' ρ (V.renL π ds) vs G := by
    intro ds vs G hr hn hb
    have h1 : RelVs Zc (fun b => Bc b ∧ ¬ LB b) w' ρc ds vs G := by
      rcases hb with hb | hb
      · refine hr.mono (N := (· < objs.length)) hn (fun _ _ => rfl) (fun _ _ => rfl) (fun _ _ => rfl) (fun _ _ => rfl) (fun _ x => x) (fun b hB => ⟨hB, ?_⟩) (fun _ _ x => x)
        rintro ⟨r, hr, _⟩
        exact hb r hr
      · exact hr.nb hb
    exact h1.ren hn (fun i hi => (hs.rho i hi).symm)
  obtain ⟨⟨Fv, p1, p2⟩, p3⟩ := hs.pend
  simp only [List.append_nil] at p1
  -- the footprints
  let F2 : Ix → List Nat := fun x => match x with
    | none => (Fv ++ Fc) ++ X
    | some (.s n) => F (some (.s n))
    | some (.r q) => if hq : ∃ i, i < objs.length ∧ π i = q then Fc' (some (.r (Classical.choose hq))) else F (some (.r q))
  have hF2 : ∀ i, i < objs.length → F2 (some (.r (π i))) = Fc' (some (.r i)) := by
    intro i hi
    have hq : ∃ j, j < objs.length ∧ π j = π i := ⟨i, hi, rfl⟩
    have h1 := Classical.choose_spec hq
    simp only [F2, dif_pos hq]
    rw [hinj _ i h1.1 hi h1.2]
  have hF2' : ∀ x, ¬ (x = none ∨ ∃ i, i < objs.length ∧ x = some (.r (π i))) → F2 x = F x := by
    intro x hx
    cases x with
    | none => exact absurd (.inl rfl) hx
    | some x =>
      cases x with
      | s n => rfl
      | r q =>
        have : ¬ ∃ i, i < objs.length ∧ π i = q := fun ⟨i, hi, e⟩ => hx (.inr ⟨i, hi, by rw [e]⟩)
        simp only [F2, dif_neg this]
  have hM : ∀ b, M b → ∃ x, (x = none ∨ ∃ i, i < objs.length ∧ x = some (.r (π i))) ∧ b ∈ F x := by
    rintro b (hb | ⟨i, hi, hb⟩)
    · exact ⟨none, .inl rfl, gm b hb⟩
    · exact ⟨_, .inr ⟨i, hi, rfl⟩, hb⟩
  -- what the callee holds comes from what went in, or is new
  have hfrom : ∀ x b, b ∈ Fc' x → (∃ y, (y = none ∨ ∃ i, i < objs.length ∧ y = some (.r (π i))) ∧ b ∈ F y) ∨ w.heap.size ≤ b := by
    intro x b hb
    rcases (hs.own x b hb).2.2 with h1 | h1
    · exact .inl (hM b h1)
    · exact .inr h1
  have hsize := hs.grow.size
  have hcx : ∀ b, b ∈ Fc ++ X → b ∈ F none ∧ b ∉ G := by
    intro b hb
    refine ⟨by rw [e0]; simp only [List.mem_append] at hb ⊢; grind, fun hg => ?_⟩
    have hh := h.nodup none
    rw [e0, List.nodup_iff_count] at hh
    have h1 := hh b
    have h2 := g2 b
    have h3 := List.count_pos_iff.2 hg
    have h4 := List.count_pos_iff.2 hb
    simp only [List.count_append] at h1 h4
    omega
  have hcxM : ∀ b, b ∈ Fc ++ X → ¬ M b := by
    rintro b hb (hm | ⟨i, hi, hm⟩)
    · exact (hcx b hb).2 hm
    · exact h.disj none (some (.r (π i))) (by simp) b (hcx b hb).1 hm
  have hcxc : ∀ b, b ∈ Fc ++ X → ∀ x, b ∉ Fc' x := by
    intro b hb x hx
    rcases (hs.own x b hx).2.2 with h1 | h1
    · exact hcxM b hb h1
    · have := (h.own none b (hcx b hb).1).2.1
      exact absurd this (by simpa [Γ'] using Nat.not_lt.2 h1)
  have hBsub : ∀ b, B b → Bc b ∧ ¬ LB b := fun b hb => ⟨hs.zBB b (.inl hb), fun hl => hLB b hl hb⟩
  have hcxB : ∀ b, b ∈ Fc ++ X → ¬ (Bc b ∧ ¬ LB b) := by
    rintro b hb ⟨h1, h2⟩
    rcases hs.zoneOld b h1 with (h3 | h3) | h3 | h3
    · exact (h.own none b (hcx b hb).1).1 h3
    · exact h2 h3
    · exact hcxM b hb h3
    · have := (h.own none b (hcx b hb).1).2.1
      exact absurd this (by simpa [Γ'] using Nat.not_lt.2 h3)
  have hFcB : ∀ x b, b ∈ Fc' x → b < w'.heap.size ∧ ¬ (Bc b ∧ ¬ LB b) := fun x b hb => ⟨(hs.own x b hb).2.1, fun hh => (hs.own x b hb).1 hh.1⟩
  have hcheap : ∀ b, b < w.heap.size → ¬ M b → w'.heap[b]? = w.heap[b]? := fun b hb hm => hs.frame b hb hm
  refine ⟨val, Zc, fun b => Bc b ∧ ¬ LB b, F2, rfl, ?_⟩
  refine h.update (fun x => x = none ∨ ∃ i, i < objs.length ∧ x = some (.r (π i))) hs.grow ?_ ?_ hF2' (fun _ _ hs => ⟨hs, rfl⟩) (fun hh => absurd (.inl rfl) hh) (fun _ x => x) (fun _ _ => rfl)
    (fun b hb => hs.zZ b hb) hBsub (fun b hb => ⟨hs.zB b hb, hZL b hb⟩) ?_ ?_ ?_ ?_ ?_ ?_ ?_ ?_ ?_ ?_
  · intro b hb hn
    refine hcheap b hb (fun hm => ?_)
    obtain ⟨x, hx, hbx⟩ := hM b hm
    exact hn x hx hbx
  · intro x hx
    exact hst' x (fun i hi e => hx (.inr ⟨i, hi, by rw [e]⟩))
  · rintro b ⟨h1, h2⟩
    rcases hs.zoneOld b h1 with (h3 | h3) | h3 | h3
    · exact .inl h3
    · exact absurd h3 h2
    · exact .inr ⟨hs.zone b h1, .inl (hM b h3)⟩
    · exact .inr ⟨hs.zone b h1, .inr h3⟩
  · intro b hb
    rcases hs.zOld b hb with h3 | h3 | h3
    · exact .inl h3
    · exact .inr (.inl (hM b h3))
    · exact .inr (.inr h3)
  · rintro s c (hh | ⟨i, _, hh⟩) <;> cases hh
  · rintro r c (hh | ⟨i, hi, hh⟩) hc'
    · cases hh
    · simp only [Option.some.injEq, Res.r.injEq] at hh
      subst hh
      have hi' : i < objs'.length := by rw [hc.len]; exact hi
      have hget : objs'[i]? = some objs'[i] := List.getElem?_eq_getElem hi'
      rw [hst i _ hget] at hc'
      simp only [Option.some.injEq] at hc'
      subst hc'
      have hin := hc.inO' objs'[i] (List.getElem_mem hi')
      obtain ⟨_, k2, _⟩ := hs.obj i objs'[i] hget
      have hNr : ∀ j, j < objs.length → N (π j) := fun j hj => (h.obj (π j) _ (hobj j _ (List.getElem?_eq_getElem hj))).1
      refine ⟨hNr i hi, ?_, ?_⟩
      · rw [hF2 i hi]
        have hnb' : (∀ r, ¬ L r) ∨ objs'[i].nb = true := hnb.imp id (fun hh => hh.2 _ (List.getElem_mem hi'))
        generalize objs'[i] = c at k2 hin hnb'
        cases c with
        | v x => cases k2
        | o s rows =>
          simp only [C.ren]
          generalize Fc' (some (.r i)) = Fr at k2
          cases k2 with
          | none t1 => exact .none (by rw [show ρ (π i) = ρc i from (hs.rho i hi).symm]; exact t1)
          | some t1 t2 t3 t4 t5 t6 =>
            have hl : (V.renLL π rows).length = rows.length := by rw [V.renLL_map, List.length_map]
            refine .some (by rw [show ρ (π i) = ρc i from (hs.rho i hi).symm]; exact t1) ?_ t3 t4 (by rw [hl]; exact t5) (by
              intro x hx
              rw [V.renLL_map] at hx
              obtain ⟨y, hy, rfl⟩ := List.mem_map.1 hx
              simpa using t6 y hy)
            rw [← V.ren_flatten]
            exact turn t2 (inNss_flatten hin) (hnb'.imp id (fun hh => by rw [V.nb_flatten]; exact hh))
      · generalize objs'[i] = c at hin
        cases c with
        | v x => exact V.ren_inN hNr x hin
        | o s rows => exact V.ren_inNss hNr rows hin
  · intro _
    have hNr : ∀ j, j < objs.length → N (π j) := fun j hj => (h.obj (π j) _ (hobj j _ (List.getElem?_eq_getElem hj))).1
    refine ⟨⟨Fv ++ Fc, rfl, ?_⟩, V.ren_inN hNr v hc.inV, n3⟩
    have t1 := turn p2 ⟨hc.inV, trivial⟩ (hnb.imp id (fun hh => by simp [V.nbL, hh.1]))
    refine RelVs.append (a := [v.ren π]) t1 ?_
    refine q3.mono n3 (fun _ _ => rfl) (fun b hb => ?_) (fun b hb => ?_) (fun b hb => ?_) (fun b hb => hs.zZ b hb) hBsub hs.grow.blk
    · exact hcheap b (h.own none b (hcx b (by simp [hb])).1).2.1 (hcxM b (by simp [hb]))
    · refine hcheap b (h.zone b (h.zB b hb)) (fun hm => ?_)
      obtain ⟨x, _, hbx⟩ := hM b hm
      exact (h.own x b hbx).1 (h.zB b hb)
    · refine hcheap b (h.zone b hb) (fun hm => ?_)
      obtain ⟨x, _, hbx⟩ := hM b hm
      exact (h.own x b hbx).1 hb
  · rintro x (hh | ⟨i, hi, hh⟩) hn
    · cases hh
    · simp only [Option.some.injEq] at hh
      subst hh
      have hi' : i < objs'.length := by rw [hc.len]; exact hi
      rw [hst i _ (List.getElem?_eq_getElem hi')] at hn
      cases hn
  · rintro x (rfl | ⟨i, hi, rfl⟩)
    · show ((Fv ++ Fc) ++ X).Nodup
      have hh := h.nodup none
      have hv := hs.nodup none
      rw [p1] at hv
      rw [e0] at hh
      rw [List.append_assoc, List.nodup_append]
      refine ⟨hv, ?_, ?_⟩
      · rw [List.nodup_iff_count] at hh ⊢; intro t; have hh := hh t; simp only [List.count_append, List.count_cons, List.count_nil] at hh ⊢; omega
      · intro a ha b hb e
        subst e
        exact hcxc a hb none (by rw [p1]; exact ha)
    · rw [hF2 i hi]; exact hs.nodup _
  · rintro x y (rfl | ⟨i, hi, rfl⟩) (rfl | ⟨j, hj, rfl⟩) hne b hb hby
    · exact hne rfl
    · rw [hF2 j hj] at hby
      have hb' : b ∈ Fv ∨ b ∈ Fc ++ X := by simpa [F2, or_assoc] using hb
      rcases hb' with hb' | hb'
      · exact hs.disj none (some (.r j)) (by simp) b (by rw [p1]; exact hb') hby
      · exact hcxc b hb' _ hby
    · rw [hF2 i hi] at hb
      have hb' : b ∈ Fv ∨ b ∈ Fc ++ X := by simpa [F2, or_assoc] using hby
      rcases hb' with hb' | hb'
      · exact hs.disj none (some (.r i)) (by simp) b (by rw [p1]; exact hb') hb
      · exact hcxc b hb' _ hb
    · rw [hF2 i hi] at hb
      rw [hF2 j hj] at hby
      refine hs.disj (some (.r i)) (some (.r j)) (fun e => hne ?_) b hb hby
      simp only [Option.some.injEq, Res.r.injEq] at e
      rw [e]
  · rintro x (rfl | ⟨i, hi, rfl⟩) b hb
    · have hb' : b ∈ Fv ∨ b ∈ Fc ++ X := by simpa [F2, or_assoc] using hb
      rcases hb' with hb' | hb'
      · exact hfrom none b (by rw [p1]; exact hb')
      · exact .inl ⟨none, .inl rfl, (hcx b hb').1⟩
    · rw [hF2 i hi] at hb
      exact hfrom _ b hb
  · rintro x (rfl | ⟨i, hi, rfl⟩) b hb
    · have hb' : b ∈ Fv ∨ b ∈ Fc ++ X := by simpa [F2, or_assoc] using hb
      rcases hb' with hb' | hb'
      · exact hFcB none b (by rw [p1]; exact hb')
      · exact ⟨Nat.lt_of_lt_of_le (h.own none b (hcx b hb').1).2.1 hsize, hcxB b hb'⟩
    · rw [hF2 i hi] at hb
      exact hFcB _ b hb

end
end Go.Proofs.Ytdoboiiilcgbnaa.L
