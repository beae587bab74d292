/- WHAT IS PROVED: what a value names is taken into it as data: none of it turns the model's state. Conditions: none. -/
import Derived.Test.YtdoboiiilcgbnaaL5
namespace Go.Proofs.Ytdoboiiilcgbnaa.L
set_option linter.unusedVariables false
set_option linter.unusedSimpArgs false

section
variable {Γ : Ctx} {Z B : Zone} {ρ : Names} {F : Ix → List Nat} {N : Nat → Prop} {st st' : St} {ps : List V} {vals : List Value} {X : List Nat} {tm : Array Value} {w : World}

/-- What is at hand, in three parts. -/
theorem SatF.parts {pre mid : List V} (h : SatF Γ Z B ρ F N st (pre ++ (mid ++ ps)) vals X tm w) :
    ∃ va vm vc Fa Fm Fc, vals = va ++ (vm ++ vc) ∧ F none = (Fa ++ (Fm ++ Fc)) ++ X ∧ RelVs Z B w ρ pre va Fa ∧ RelVs Z B w ρ mid vm Fm ∧ RelVs Z B w ρ ps vc Fc ∧
      V.inNs N pre ∧ V.inNs N mid ∧ V.inNs N ps := by
  obtain ⟨⟨Fp, p1, p2⟩, p3⟩ := h.pend
  obtain ⟨va, vb, Fa, Fb, rfl, rfl, q1, q2⟩ := p2.split
  obtain ⟨vm, vc, Fm, Fc, rfl, rfl, q3, q4⟩ := q2.split
  rw [inNs_append, inNs_append] at p3
  exact ⟨va, vm, vc, Fa, Fm, Fc, rfl, p1, q1, q3, q4, p3.1, p3.2.1, p3.2.2⟩

theorem SatF.partsAt {pre mid : List V} {va vm vc : List Value} (h : SatF Γ Z B ρ F N st (pre ++ (mid ++ ps)) (va ++ (vm ++ vc)) X tm w) (la : va.length = pre.length) (lm : vm.length = mid.length) :
    ∃ Fa Fm Fc, F none = (Fa ++ (Fm ++ Fc)) ++ X ∧ RelVs Z B w ρ pre va Fa ∧ RelVs Z B w ρ mid vm Fm ∧ RelVs Z B w ρ ps vc Fc ∧
      V.inNs N pre ∧ V.inNs N mid ∧ V.inNs N ps := by
  obtain ⟨va', vm', vc', Fa, Fm, Fc, e, h1, h2, h3, h4, h5⟩ := h.parts
  have e1 := List.append_inj e (by rw [la, h2.length])
  have e2 := List.append_inj e1.2 (by rw [lm, h3.length])
  obtain ⟨rfl, _⟩ := e1
  obtain ⟨rfl, rfl⟩ := e2
  exact ⟨Fa, Fm, Fc, h1, h2, h3, h4, h5⟩

/-- What is at hand turns, an object goes. -/
theorem SatF.regroup {r : Nat} {ps' : List V} {vals' : List Value} {X' : List Nat} {G : List Nat} {Fp' : List Nat}
    (h : SatF Γ Z B ρ F N st ps vals X tm w) (hr : F (some (.r r)) = G)
    (hp : RelVs Z B w ρ ps' vals' Fp') (hn : V.inNs N ps') (hnd : (F none ++ G).Nodup → (Fp' ++ X').Nodup) (hs : ∀ b ∈ Fp' ++ X', b ∈ F none ++ G) :
    ∃ F', F' none = Fp' ++ X' ∧ SatF Γ Z B ρ F' N (upd st (.r r) none) ps' vals' X' tm w := by
  have hnd0 := h.nd (xs := [none, some (.r r)]) (by simp)
  refine ⟨fun x => if x = none then Fp' ++ X' else if x = some (.r r) then [] else F x, by simp, ?_⟩
  refine h.ghost [none, some (.r r)] (by simp) ?_ ?_ (by simp) (fun _ x => x) (fun _ _ => rfl) ?_ ?_ ?_ ?_ ?_ ?_
  · intro x hx
    simp only [List.mem_cons, reduceCtorEq, Option.some.injEq, List.not_mem_nil, or_false, false_or] at hx
    simp [upd, hx]
  · intro x hx
    simp only [List.mem_cons, List.not_mem_nil, or_false, not_or] at hx
    simp [hx.1, hx.2]
  · intro s c hs; simp at hs
  · intro r' c hs hc
    simp only [List.mem_cons, reduceCtorEq, Option.some.injEq, Res.r.injEq, List.not_mem_nil, or_false, false_or] at hs
    subst hs
    simp [upd] at hc
  · intro _
    exact ⟨⟨Fp', by simp, hp⟩, hn⟩
  · intro x hx _
    simp only [List.mem_cons, reduceCtorEq, Option.some.injEq, List.not_mem_nil, or_false, false_or] at hx
    simp [hx]
  · simp only [List.flatMap_cons, List.flatMap_nil, List.append_nil, if_true, reduceCtorEq, if_false, hr] at hnd0 ⊢
    exact hnd hnd0
  · intro b hb
    simp only [List.flatMap_cons, List.flatMap_nil, List.append_nil, if_true, reduceCtorEq, if_false, hr] at hb ⊢
    exact hs b hb

/-- What is at hand turns, no object. -/
theorem SatF.rehand {ps' : List V} {vals' : List Value} {X' : List Nat} {Fp' : List Nat}
    (h : SatF Γ Z B ρ F N st ps vals X tm w) (hp : RelVs Z B w ρ ps' vals' Fp') (hn : V.inNs N ps') (hnd : (F none).Nodup → (Fp' ++ X').Nodup) (hs : ∀ b ∈ Fp' ++ X', b ∈ F none) :
    ∃ F', F' none = Fp' ++ X' ∧ SatF Γ Z B ρ F' N st ps' vals' X' tm w := by
  refine ⟨fun x => if x = none then Fp' ++ X' else F x, by simp, ?_⟩
  refine h.ghost [none] (by simp) (fun _ _ => rfl) ?_ (by simp) (fun _ x => x) (fun _ _ => rfl) (by simp) (by simp) ?_ (by simp) ?_ ?_
  · intro x hx
    simp only [List.mem_cons, List.not_mem_nil, or_false] at hx
    simp [hx]
  · intro _
    exact ⟨⟨Fp', by simp, hp⟩, hn⟩
  · simpa using hnd (h.nodup none)
  · intro b hb
    simpa using hs b (by simpa using hb)

theorem SatF.lenPend (h : SatF Γ Z B ρ F N st ps vals X tm w) : ps.length = vals.length := by
  obtain ⟨⟨Fp, p1, p2⟩, p3⟩ := h.pend
  exact p2.length

theorem segs_of {xs : List (List V)} {i m : Nat} (h : i + m ≤ xs.length) :
    xs.flatten = (xs.take i).flatten ++ (((xs.drop i).take m).flatten ++ (xs.drop (i + m)).flatten) := by
  rw [← List.flatten_append, ← List.flatten_append]
  congr 1
  rw [← List.drop_drop, List.take_append_drop, List.take_append_drop]

theorem nodup_mid {a m c x g g1 g2 : List Nat} {b : Nat} (h : ((a ++ (m ++ c)) ++ x ++ (b :: (g1 ++ (g ++ g2)))).Nodup) :
    ((a ++ (g ++ c)) ++ (b :: x)).Nodup := by
  rw [List.nodup_iff_count] at h ⊢; intro t; have h := h t; simp only [List.count_append, List.count_cons, List.count_nil] at h ⊢; omega

theorem res_sound : ∀ (n : Nat),
    (∀ (v : V) (d : D) (st st' : St) (R W : List Res) (pre ps : List V) (vals : List Value) (X : List Nat) (F : Ix → List Nat), Run (resV n v) st d st' R W →
      SatF Γ Z B ρ F N st (pre ++ v :: ps) vals X tm w → ∃ F', SatF Γ Z B ρ F' N st' (pre ++ .d d :: ps) vals X tm w) ∧
    (∀ (vs : List V) (ds : List D) (st st' : St) (R W : List Res) (pre ps : List V) (vals : List Value) (X : List Nat) (F : Ix → List Nat), Run (resV.gol n vs) st ds st' R W →
      SatF Γ Z B ρ F N st (pre ++ (vs ++ ps)) vals X tm w → ds.length = vs.length ∧ ∃ F', SatF Γ Z B ρ F' N st' (pre ++ (ds.map V.d ++ ps)) vals X tm w) ∧
    (∀ (vs : List (List V)) (ds : List (List D)) (st st' : St) (R W : List Res) (pre ps : List V) (vals : List Value) (X : List Nat) (F : Ix → List Nat), Run (resV.go n vs) st ds st' R W →
      SatF Γ Z B ρ F N st (pre ++ (vs.flatten ++ ps)) vals X tm w → ds.map List.length = vs.map List.length ∧ ∃ F', SatF Γ Z B ρ F' N st' (pre ++ (ds.flatten.map V.d ++ ps)) vals X tm w) := by
  intro n
  have lists : ∀ n, (∀ (v : V) (d : D) (st st' : St) (R W : List Res) (pre ps : List V) (vals : List Value) (X : List Nat) (F : Ix → List Nat), Run (resV n v) st d st' R W →
      SatF Γ Z B ρ F N st (pre ++ v :: ps) vals X tm w → ∃ F', SatF Γ Z B ρ F' N st' (pre ++ .d d :: ps) vals X tm w) →
      (∀ (vs : List V) (ds : List D) (st st' : St) (R W : List Res) (pre ps : List V) (vals : List Value) (X : List Nat) (F : Ix → List Nat), Run (resV.gol n vs) st ds st' R W →
      SatF Γ Z B ρ F N st (pre ++ (vs ++ ps)) vals X tm w → ds.length = vs.length ∧ ∃ F', SatF Γ Z B ρ F' N st' (pre ++ (ds.map V.d ++ ps)) vals X tm w) ∧
      (∀ (vs : List (List V)) (ds : List (List D)) (st st' : St) (R W : List Res) (pre ps : List V) (vals : List Value) (X : List Nat) (F : Ix → List Nat), Run (resV.go n vs) st ds st' R W →
      SatF Γ Z B ρ F N st (pre ++ (vs.flatten ++ ps)) vals X tm w → ds.map List.length = vs.map List.length ∧ ∃ F', SatF Γ Z B ρ F' N st' (pre ++ (ds.flatten.map V.d ++ ps)) vals X tm w) := by
    intro n hV
    have hgol : ∀ (vs : List V) (ds : List D) (st st' : St) (R W : List Res) (pre ps : List V) (vals : List Value) (X : List Nat) (F : Ix → List Nat), Run (resV.gol n vs) st ds st' R W →
        SatF Γ Z B ρ F N st (pre ++ (vs ++ ps)) vals X tm w → ds.length = vs.length ∧ ∃ F', SatF Γ Z B ρ F' N st' (pre ++ (ds.map V.d ++ ps)) vals X tm w := by
      intro vs
      induction vs with
      | nil =>
        intro ds st st' R W pre ps vals X F hr h
        simp only [resV.gol] at hr
        cases hr
        exact ⟨rfl, F, h⟩
      | cons v vs ih =>
        intro ds st st' R W pre ps vals X F hr h
        simp only [resV.gol] at hr
        obtain ⟨d, st1, R1, W1, R2, W2, r1, r2, -, -⟩ := hr.bind_inv
        obtain ⟨ds', st2, R3, W3, R4, W4, r3, r4, -, -⟩ := r2.bind_inv
        cases r4
        obtain ⟨F1, h1⟩ := hV v d st st1 R1 W1 pre (vs ++ ps) vals X F r1 h
        obtain ⟨hl, F2, h2⟩ := ih ds' st1 st' R3 W3 (pre ++ [.d d]) ps vals X F1 r3 (by simpa using h1)
        exact ⟨by simp [hl], F2, by simpa using h2⟩
    refine ⟨hgol, ?_⟩
    intro vs
    induction vs with
    | nil =>
      intro ds st st' R W pre ps vals X F hr h
      simp only [resV.go] at hr
      cases hr
      exact ⟨rfl, F, h⟩
    | cons v vs ih =>
      intro ds st st' R W pre ps vals X F hr h
      simp only [resV.go] at hr
      obtain ⟨d, st1, R1, W1, R2, W2, r1, r2, -, -⟩ := hr.bind_inv
      obtain ⟨ds', st2, R3, W3, R4, W4, r3, r4, -, -⟩ := r2.bind_inv
      cases r4
      obtain ⟨hl1, F1, h1⟩ := hgol v d st st1 R1 W1 pre (vs.flatten ++ ps) vals X F r1 (by simpa using h)
      obtain ⟨hl, F2, h2⟩ := ih ds' st1 st' R3 W3 (pre ++ d.map V.d) ps vals X F1 r3 (by simpa using h1)
      exact ⟨by simp [hl, hl1], F2, by simpa using h2⟩
  suffices hV : ∀ n, (∀ (v : V) (d : D) (st st' : St) (R W : List Res) (pre ps : List V) (vals : List Value) (X : List Nat) (F : Ix → List Nat), Run (resV n v) st d st' R W →
      SatF Γ Z B ρ F N st (pre ++ v :: ps) vals X tm w → ∃ F', SatF Γ Z B ρ F' N st' (pre ++ .d d :: ps) vals X tm w) from
    ⟨hV n, (lists n (hV n)).1, (lists n (hV n)).2⟩
  clear n
  intro n
  induction n with
  | zero =>
    intro v d st st' R W pre ps vals X F hr h
    simp only [resV] at hr
    cases hr
  | succ n ih =>
    obtain ⟨hgol, hgo⟩ := lists n ih
    intro v d st st' R W pre ps vals X F hr h
    have uni : ∀ {s : Nat} {a : List (List D)} {b : List (List V)}, a.map List.length = b.map List.length → (∀ x ∈ b, x.length = s) → ∀ x ∈ a, x.length = s := by
      intro s a b e hb x hx
      have : x.length ∈ a.map List.length := List.mem_map_of_mem hx
      rw [e] at this
      obtain ⟨y, hy, e⟩ := List.mem_map.1 this
      rw [← e]; exact hb y hy
    have flat : ∀ {a : List (List D)} {b : List (List V)}, a.map List.length = b.map List.length → a.flatten.length = b.flatten.length := by
      intro a b e
      rw [List.length_flatten, List.length_flatten, e]
    have nilRow : ∀ (s : Nat) (A : Option Addr) (st' : St) (F : Ix → List Nat) (va vc : List Value) (r : Nat), st' = upd st (.r r) none →
        SatF Γ Z B ρ F N st (pre ++ ([v] ++ ps)) (va ++ ([.slice A 0 0] ++ vc)) X tm w → va.length = pre.length →
        ∃ F', SatF Γ Z B ρ F' N st' (pre ++ .d (.row .own s []) :: ps) (va ++ .slice A 0 0 :: vc) X tm w := by
      rintro s A _ F va vc r rfl h la
      obtain ⟨Fa, Fm, Fc, e, q1, q2, q3, n1, n2, n3⟩ := h.partsAt la rfl
      obtain ⟨F', _, h'⟩ := h.regroup (r := r) (ps' := pre ++ .d (.row .own s []) :: ps) (vals' := va ++ .slice A 0 0 :: vc) (X' := X) (Fp' := Fa ++ Fc) rfl
        (by
          have := RelVs.append q1 (RelVs.append (RelVs.d (RelDs.none (m := .own) (s := s) (A := A) .nil) .nil) q3)
          simpa using this)
        (by rw [inNs_append]; exact ⟨n1, trivial, n3⟩) (by rw [e]; intro hh; rw [List.nodup_iff_count] at hh ⊢; intro t; have hh := hh t; simp only [List.count_append, List.count_cons, List.count_nil] at hh ⊢; omega) (by rw [e]; intro x hx; simp only [List.mem_append, List.mem_cons] at hx ⊢; grind)
      exact ⟨F', h'⟩
    unfold resV at hr
    split at hr
    · cases hr; exact ⟨F, h⟩
    · -- a slice of an object
      rename_i r s i m
      cases hr with
      | @get _ _ _ _ c _ _ _ g1 g2 =>
        dsimp only at g2
        split at g2
        · rename_i s' xs
          cases g2 with
          | req g3 g4 =>
            cases g4 with
            | set g5 =>
              obtain ⟨dss, st1, R1, W1, R2, W2, r1, r2, -, -⟩ := g5.bind_inv
              cases r2
              obtain ⟨rfl, hle⟩ := g3
              obtain ⟨hNr, hO, hin⟩ := h.obj r _ g1
              obtain ⟨va, vm, vc, Fa, Fm, Fc, rfl, e0, q1, q2, q3, n1, n2, n3⟩ := SatF.parts (pre := pre) (mid := [.sl r s i m]) (ps := ps) (by simpa using h)
              have la := q1.length.symm
              cases q2 with
              | @sl _ _ _ _ c A _ _ _ sl t1 =>
                cases t1
                have empty : m = 0 → c = 0 → ∃ F', SatF Γ Z B ρ F' N st' (pre ++ .d (.row .own s dss) :: ps) (va ++ ([.slice A m c] ++ vc)) X tm w := by
                  rintro rfl rfl
                  simp only [List.take_zero, resV.go] at r1
                  cases r1
                  exact nilRow s A _ F va vc r rfl (by simpa using h) la
                rcases sl with ⟨e1, e2⟩ | ⟨b, o, e1, e2, e3, e4⟩
                · exact empty e1 e2
                · generalize hG : F (some (.r r)) = G at hO
                  cases hO with
                  | none hρ => rw [hρ] at e1; cases e1
                  | @some _ b' o' _ us FG hρ hrel hone hrange hblk huni =>
                    rw [hρ] at e1
                    cases e1
                    rw [segs_of hle] at hrel
                    obtain ⟨u1, u23, G1, G23, rfl, rfl, k1, k23⟩ := hrel.split
                    obtain ⟨u2, u3, G2, G3, rfl, rfl, k2, k3⟩ := k23.split
                    have hlen1 : u1.length = i * s := by rw [← k1.length, flatten_take_length huni (by omega)]
                    have hseg : ∀ x ∈ (xs.drop i).take m, x.length = s := fun x hx => huni x (List.mem_of_mem_drop (List.mem_of_mem_take hx))
                    have hinS : V.inNss N ((xs.drop i).take m) := inNss_iff.2 fun x hx => inNss_iff.1 hin x (List.mem_of_mem_drop (List.mem_of_mem_take hx))
                    obtain ⟨F1, f1, h1⟩ := h.regroup (r := r) (ps' := pre ++ (((xs.drop i).take m).flatten ++ ps)) (vals' := va ++ (u2 ++ vc)) (X' := b :: X) (Fp' := Fa ++ (G2 ++ Fc)) hG
                      (RelVs.append q1 (RelVs.append k2 q3))
                      (by rw [inNs_append, inNs_append]; exact ⟨n1, inNss_flatten hinS, n3⟩) (by rw [e0]; exact nodup_mid) (by rw [e0]; intro x hx; simp only [List.mem_append, List.mem_cons] at hx ⊢; grind)
                    obtain ⟨hmap, F2, h2⟩ := hgo _ dss _ _ _ _ pre ps _ _ F1 r1 h1
                    have hfl := flat hmap
                    obtain ⟨Fa', Fm', Fc', e', q1', q2', q3', n1', n2', n3'⟩ := h2.partsAt la (by rw [List.length_map, hfl, ← k2.length])
                    have q2'' := RelVs.toD q2'
                    rw [rangeAt_append, rangeAt_append, hlen1] at hrange
                    have hml : dss.length = m := by
                      have := congrArg List.length hmap
                      simp only [List.length_map, List.length_take, List.length_drop] at this
                      omega
                    have hrow : RelVs Z B w ρ [.d (.row .own s dss)] [.slice (some ⟨b, o + i * s, none⟩) dss.length c] (b :: Fm') := by
                      have := RelVs.d (RelDs.row (m := .own) (c := c) q2'' hrange.2.1 trivial (fun _ => e3.le (by rw [Nat.add_mul]; omega)) (fun e => absurd rfl e) (uni hmap hseg) (by omega) .nil) (RelVs.nil (Z := Z) (B := B) (w := w) (ρ := ρ))
                      simpa [Md.foot] using this
                    obtain ⟨F3, f3, h3⟩ := h2.rehand (ps' := pre ++ .d (.row .own s dss) :: ps) (vals' := va ++ ([.slice A m c] ++ vc)) (X' := X) (Fp' := Fa' ++ ((b :: Fm') ++ Fc'))
                      (by
                        rw [e2, ← hml]
                        exact RelVs.append q1' (RelVs.append hrow q3'))
                      (by rw [inNs_append]; exact ⟨n1', trivial, n3'⟩) (by rw [e']; intro hh; rw [List.nodup_iff_count] at hh ⊢; intro t; have hh := hh t; simp only [List.count_append, List.count_cons, List.count_nil] at hh ⊢; omega) (by rw [e']; intro x hx; simp only [List.mem_append, List.mem_cons] at hx ⊢; grind)
                    exact ⟨F3, h3⟩
        · cases g2
    · -- a pointer to an object
      rename_i r s
      cases hr with
      | @get _ _ _ _ c _ _ _ g1 g2 =>
        dsimp only at g2
        split at g2
        · rename_i s' cs
          cases g2 with
          | set g5 =>
            obtain ⟨ds, st1, R1, W1, R2, W2, r1, r2, -, -⟩ := g5.bind_inv
            cases r2
            obtain ⟨hNr, hO, hin⟩ := h.obj r _ g1
            obtain ⟨va, vm, vc, Fa, Fm, Fc, rfl, e0, q1, q2, q3, n1, n2, n3⟩ := SatF.parts (pre := pre) (mid := [.mp r s 0 0]) (ps := ps) (by simpa using h)
            have la := q1.length.symm
            cases q2 with
            | @mp _ _ _ _ b o _ _ _ e1 t1 =>
              cases t1
              generalize hG : F (some (.r r)) = G at hO
              cases hO with
              | @some _ b' o' _ us FG hρ hrel hone hrange hblk huni =>
                rw [hρ] at e1
                cases e1
                simp only [List.flatten_cons, List.flatten_nil, List.append_nil] at hrel
                obtain ⟨F1, f1, h1⟩ := h.regroup (r := r) (ps' := pre ++ (cs ++ ps)) (vals' := va ++ (us ++ vc)) (X' := b :: X) (Fp' := Fa ++ (FG ++ Fc)) hG
                  (RelVs.append q1 (RelVs.append hrel q3))
                  (by rw [inNs_append, inNs_append]; exact ⟨n1, hin.1, n3⟩) (by rw [e0]; intro hh; rw [List.nodup_iff_count] at hh ⊢; intro t; have hh := hh t; simp only [List.count_append, List.count_cons, List.count_nil] at hh ⊢; omega) (by rw [e0]; intro x hx; simp only [List.mem_append, List.mem_cons] at hx ⊢; grind)
                obtain ⟨hl, F2, h2⟩ := hgol _ ds _ _ _ _ pre ps _ _ F1 r1 h1
                obtain ⟨Fa', Fm', Fc', e', q1', q2', q3', n1', n2', n3'⟩ := h2.partsAt la (by rw [List.length_map, hl, ← hrel.length])
                have q2'' := RelVs.toD q2'
                have hs' : cs.length = s' := huni cs (by simp)
                have hrow : RelVs Z B w ρ [.d (.ptr .own ds)] [.pointer (some ⟨b, o, none⟩)] (b :: Fm') := by
                  have := RelVs.d (RelDs.ptr (m := .own) q2'' hrange trivial (fun _ => hblk.le (by rw [hl, hs']; simp)) (fun e => absurd rfl e) .nil) (RelVs.nil (Z := Z) (B := B) (w := w) (ρ := ρ))
                  simpa [Md.foot] using this
                obtain ⟨F3, f3, h3⟩ := h2.rehand (ps' := pre ++ .d (.ptr .own ds) :: ps) (vals' := va ++ ([.pointer (some ⟨b, o + 0 * s + 0, none⟩)] ++ vc)) (X' := X) (Fp' := Fa' ++ ((b :: Fm') ++ Fc'))
                  (by
                    exact RelVs.append q1' (RelVs.append (show RelVs Z B w ρ [.d (.ptr .own ds)] [.pointer (some ⟨b, o + 0 * s + 0, none⟩)] (b :: Fm') from by simpa using hrow) q3'))
                  (by rw [inNs_append]; exact ⟨n1', trivial, n3'⟩) (by rw [e']; intro hh; rw [List.nodup_iff_count] at hh ⊢; intro t; have hh := hh t; simp only [List.count_append, List.count_cons, List.count_nil] at hh ⊢; omega) (by rw [e']; intro x hx; simp only [List.mem_append, List.mem_cons] at hx ⊢; grind)
                exact ⟨F3, h3⟩
        · cases g2
    · -- a fresh array
      rename_i s xs
      obtain ⟨dss, st1, R1, W1, R2, W2, r1, r2, -, -⟩ := hr.bind_inv
      cases r2
      obtain ⟨va, vm, vc, Fa, Fm, Fc, rfl, e0, q1, q2, q3, n1, n2, n3⟩ := SatF.parts (pre := pre) (mid := [.arr s xs]) (ps := ps) (by simpa using h)
      have la := q1.length.symm
      cases q2 with
      | @arr _ b _ us G _ _ _ t1 t2 t3 t4 t5 t6 =>
        cases t6
        obtain ⟨F1, f1, h1⟩ := h.rehand (ps' := pre ++ (xs.flatten ++ ps)) (vals' := va ++ (us ++ vc)) (X' := b :: X) (Fp' := Fa ++ (G ++ Fc))
          (RelVs.append q1 (RelVs.append t1 q3))
          (by rw [inNs_append, inNs_append]; exact ⟨n1, inNss_flatten n2.1, n3⟩) (by rw [e0]; intro hh; rw [List.nodup_iff_count] at hh ⊢; intro t; have hh := hh t; simp only [List.count_append, List.count_cons, List.count_nil] at hh ⊢; omega) (by rw [e0]; intro x hx; simp only [List.mem_append, List.mem_cons] at hx ⊢; grind)
        obtain ⟨hmap, F2, h2⟩ := hgo _ dss _ _ _ _ pre ps _ _ F1 r1 h1
        have hfl := flat hmap
        obtain ⟨Fa', Fm', Fc', e', q1', q2', q3', n1', n2', n3'⟩ := h2.partsAt la (by rw [List.length_map, hfl, ← t1.length])
        have q2'' := RelVs.toD q2'
        have hml : dss.length = xs.length := by
          have := congrArg List.length hmap
          simpa using this
        have hrow : RelVs Z B w ρ [.d (.row .own s dss)] [.slice (some ⟨b, 0, none⟩) dss.length xs.length] (b :: Fm') := by
          have := RelVs.d (RelDs.row (m := .own) (c := xs.length) q2'' t3 trivial (fun _ => t4.le (by omega)) (fun e => absurd rfl e) (uni hmap t5) (by omega) .nil) (RelVs.nil (Z := Z) (B := B) (w := w) (ρ := ρ))
          simpa [Md.foot] using this
        obtain ⟨F3, f3, h3⟩ := h2.rehand (ps' := pre ++ .d (.row .own s dss) :: ps) (vals' := va ++ ([.slice (some ⟨b, 0, none⟩) xs.length xs.length] ++ vc)) (X' := X) (Fp' := Fa' ++ ((b :: Fm') ++ Fc'))
          (by
            rw [hml] at hrow
            exact RelVs.append q1' (RelVs.append hrow q3'))
          (by rw [inNs_append]; exact ⟨n1', trivial, n3'⟩) (by rw [e']; intro hh; rw [List.nodup_iff_count] at hh ⊢; intro t; have hh := hh t; simp only [List.count_append, List.count_cons, List.count_nil] at hh ⊢; omega) (by rw [e']; intro x hx; simp only [List.mem_append, List.mem_cons] at hx ⊢; grind)
        exact ⟨F3, h3⟩
    · cases hr

end
end Go.Proofs.Ytdoboiiilcgbnaa.L
