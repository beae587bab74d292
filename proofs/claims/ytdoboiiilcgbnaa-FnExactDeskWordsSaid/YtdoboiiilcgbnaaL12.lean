/- WHAT IS PROVED: the abstract loads, stores and new variables tell what the model's do. Conditions: none. -/
import Derived.Test.YtdoboiiilcgbnaaL11
namespace Go.Proofs.Ytdoboiiilcgbnaa.L
set_option linter.unusedVariables false
set_option linter.unusedSimpArgs false

section
variable {P : Program} {Γ : Ctx} {Z B : Zone} {ρ : Names} {F : Ix → List Nat} {N : Nat → Prop} {st st' : St} {ps : List V} {vals : List Value} {X : List Nat} {tm : Array Value} {w : World}

theorem SatF.lens {pre : List V} {v : V} {va vc : List Value} {val : Value} (h : SatF Γ Z B ρ F N st (pre ++ v :: ps) (va ++ val :: vc) X tm w) (la : va.length = pre.length) : vc.length = ps.length := by
  have := h.lenPend
  simp only [List.length_append, List.length_cons] at this
  omega

/-- The cells of a value among those at hand. -/
theorem cells_sound {pre : List V} {v : V} {cs : List V} {va vc : List Value} {val : Value} {R W : List Res} (hr : Run (cellsP v) st cs st' R W)
    (h : SatF Γ Z B ρ F N st (pre ++ v :: ps) (va ++ val :: vc) X tm w) (la : va.length = pre.length) :
    ∃ F', SatF Γ Z B ρ F' N st' (pre ++ (cs ++ ps)) (va ++ (val.cells.toList ++ vc)) X tm w ∧ (∀ u ∈ val.cells.toList, u.oneCell' = true) ∧ val.cells.toList.length = cs.length := by
  obtain ⟨Fa, Fm, Fc, e0, q1, q2, q3, n1, n2, n3⟩ := SatF.partsAt (pre := pre) (mid := [v]) (ps := ps) (va := va) (vm := [val]) (vc := vc) (by simpa using h) la rfl
  have one : ∀ (hc : val.oneCell' = true), cs = [v] → st' = st → ∃ F', SatF Γ Z B ρ F' N st' (pre ++ (cs ++ ps)) (va ++ (val.cells.toList ++ vc)) X tm w ∧ (∀ u ∈ val.cells.toList, u.oneCell' = true) ∧ val.cells.toList.length = cs.length := by
    rintro hc rfl rfl
    have e : val.cells = #[val] := by cases val <;> first | rfl | simp [Value.oneCell'] at hc
    refine ⟨F, ?_, by rw [e]; simpa using hc, by rw [e]; rfl⟩
    rw [e]
    simpa using h
  unfold cellsP at hr
  split at hr
  · cases hr
    generalize hv : [val] = vv at q2
    cases q2 with
    | @agg _ us FF _ _ _ t1 t0 t2 =>
      cases t2
      simp only [List.cons.injEq, and_true] at hv
      subst hv
      obtain ⟨F', _, h'⟩ := h.rehand (ps' := pre ++ (cs ++ ps)) (vals' := va ++ (us ++ vc)) (X' := X) (Fp' := Fa ++ (FF ++ Fc)) (RelVs.append q1 (RelVs.append t1 q3))
        (by rw [inNs_append, inNs_append]; exact ⟨n1, n2.1, n3⟩) (by rw [e0]; intro hh; rw [List.nodup_iff_count] at hh ⊢; intro t; have hh := hh t; simp only [List.count_append, List.count_cons, List.count_nil] at hh ⊢; omega)
        (by rw [e0]; intro x hx; simp only [List.mem_append, List.mem_cons] at hx ⊢; grind)
      exact ⟨F', by simpa [Value.cells] using h', by simpa [Value.cells] using t0, by simp [Value.cells, t1.length]⟩
  · rename_i s xs
    obtain ⟨ds, st1, R1, W1, R2, W2, r1, r2, -, -⟩ := hr.bind_inv
    cases r2
    have hres : Run (resV 7 (.arr s xs)) st (.row .own s ds) st' (R1 ++ []) (W1 ++ []) := by
      unfold resV
      exact Run.bind (f := fun ds => Prog.ret (D.row .own s ds)) r1 Run.ret
    obtain ⟨F1, h1⟩ := (res_sound 7).1 _ _ _ _ _ _ pre ps _ X F hres h
    have hval : val.oneCell' = true ∧ val.cells.toList = [val] := by
      generalize hv : [val] = vv at q2
      cases q2 with
      | arr t1 t2 t3 t4 t5 t6 =>
        cases t6
        simp only [List.cons.injEq, and_true] at hv
        subst hv
        exact ⟨rfl, rfl⟩
    refine ⟨F1, ?_, by rw [hval.2]; simpa using hval.1, by rw [hval.2]; rfl⟩
    rw [hval.2]
    simpa using h1
  · cases hr
  · rename_i h1 h2 h3
    cases hr
    refine one ?_ rfl rfl
    generalize hv : [val] = vv at q2
    cases q2 with
    | d t1 t2 =>
      cases t2
      simp only [List.cons.injEq, and_true] at hv
      subst hv
      exact t1.one _ (by simp)
    | sl t1 t2 => cases t2; simp only [List.cons.injEq, and_true] at hv; subst hv; rfl
    | mp t1 t2 => cases t2; simp only [List.cons.injEq, and_true] at hv; subst hv; rfl
    | clo t1 t2 => cases t2; simp only [List.cons.injEq, and_true] at hv; subst hv; rfl
    | agg => exact absurd rfl (h1 _)
    | tup => exact absurd rfl (h3 _)
    | arr => exact absurd rfl (h2 _ _)

theorem nameP_rw {nm : Nat} {v v' : V} {R W : List Res} (hr : Run (nameP nm v) st v' st' R W) : R = [] ∧ ∀ x ∈ W, x = .r nm := by
  unfold nameP at hr
  split at hr
  · cases hr with | set h => cases h; simp
  · cases hr with | set h => cases h; simp
  · cases hr with | set h => cases h; simp
  · cases hr; simp

theorem outP_rw {nm : Nat} : ∀ {vs vs' : List V} {c : Nat} {st st' : St} {R W : List Res}, Run (outP nm vs c) st vs' st' R W → R = [] ∧ (∀ x ∈ W, ∃ k, c ≤ k ∧ k < c + vs.length ∧ x = .r (nm + k)) ∧ vs'.length = vs.length
  | [], vs', c, st, st', R, W, h => by simp only [outP] at h; cases h; simp
  | v :: vs, vs', c, st, st', R, W, h => by
    simp only [outP] at h
    obtain ⟨v1, st1, R1, W1, R2, W2, r1, r2, rfl, rfl⟩ := h.bind_inv
    obtain ⟨vs1, st2, R3, W3, R4, W4, r3, r4, rfl, rfl⟩ := r2.bind_inv
    cases r4
    obtain ⟨rfl, a1⟩ := nameP_rw r1
    obtain ⟨rfl, a2, a3⟩ := outP_rw r3
    refine ⟨rfl, ?_, by simp [a3]⟩
    intro x hx
    simp only [List.mem_append, List.not_mem_nil, or_false] at hx
    rcases hx with hx | hx
    · exact ⟨c, by omega, by simp, a1 x hx⟩
    · obtain ⟨k, k1, k2, k3⟩ := a2 x hx
      exact ⟨k, by omega, by simp; omega, k3⟩

theorem out_sound {nm : Nat} : ∀ {vs vs' : List V} {c : Nat} {st st' : St} {N : Nat → Prop} {ρ : Names} {F : Ix → List Nat} {pre : List V} {R W : List Res}, Run (outP nm vs c) st vs' st' R W →
    (∀ k, c ≤ k → k < c + vs.length → ¬ N (nm + k)) → SatF Γ Z B ρ F N st (pre ++ (vs ++ ps)) vals X tm w →
    ∃ ρ' F', (∀ r, (∀ k, c ≤ k → k < c + vs.length → r ≠ nm + k) → ρ' r = ρ r) ∧ SatF Γ Z B ρ' F' (fun r => N r ∨ (nm + c ≤ r ∧ r < nm + c + vs.length)) st' (pre ++ (vs' ++ ps)) vals X tm w
  | [], vs', c, st, st', N, ρ, F, pre, R, W, h, hn, hs => by
    simp only [outP] at h
    cases h
    exact ⟨ρ, F, fun _ _ => rfl, hs.weakN (fun _ x => .inl x)⟩
  | v :: vs, vs', c, st, st', N, ρ, F, pre, R, W, h, hn, hs => by
    simp only [outP] at h
    obtain ⟨v1, st1, R1, W1, R2, W2, r1, r2, -, -⟩ := h.bind_inv
    obtain ⟨vs1, st2, R3, W3, R4, W4, r3, r4, -, -⟩ := r2.bind_inv
    cases r4
    obtain ⟨ρ1, F1, a1, h1⟩ := name_sound (pre := pre) (ps := vs ++ ps) r1 (hn c (Nat.le_refl _) (by simp)) (by simpa using hs)
    obtain ⟨ρ2, F2, a2, h2⟩ := out_sound (pre := pre ++ [v1]) (N := fun r => N r ∨ r = nm + c) r3 (by
      intro k k1 k2 hk
      rcases hk with hk | hk
      · exact hn k (by omega) (by simp; omega) hk
      · omega) (by simpa using h1)
    refine ⟨ρ2, F2, ?_, ?_⟩
    · intro r hr
      rw [a2 r (fun k k1 k2 => hr k (by omega) (by simp; omega)), a1 r (hr c (Nat.le_refl _) (by simp))]
    · have : SatF Γ Z B ρ2 F2 (fun r => N r ∨ (nm + c ≤ r ∧ r < nm + c + (v :: vs).length)) st' (pre ++ [v1] ++ (vs1 ++ ps)) vals X tm w := h2.weakN (by
        intro r hr
        rcases hr with (hr | hr) | hr
        · exact .inl hr
        · exact .inr ⟨by omega, by simp; omega⟩
        · exact .inr ⟨by omega, by simp; omega⟩)
      simpa using this

theorem run_loadVar_one (w : World) (b o : Nat) (ty : TypeId) (u : Value) (d : TypeDesc) (hc : w.cell? ⟨b, o, none⟩ = some u) (hu : P.underlying ty = some d) (hd : d.isRow = false) :
    (loadVar ty ⟨b, o, none⟩).run P w = .ok u w := by
  have hagg : (isAgg ty).run P w = .ok false w := by
    unfold isAgg
    rw [Sem.run_bind, run_underlying hu w]
    cases d <;> simp_all
  simp [loadVar, Sem.run_bind, hagg, hc]

/-- What lies at an address, read as a value of a type. -/
theorem asVal_load {t : TypeId} {ty : Ty} {cs : List V} {us : List Value} {G : List Nat} {v : V} {b o : Nat} {R W : List Res} (ht : tyOf P t = some ty) (hr : Run (asVal ty.k.agg cs) st v st' R W)
    (hrel : RelVs Z B w ρ cs us G) (hone : ∀ u ∈ us, u.oneCell' = true) (hl : us.length = ty.size) (hrange : w.rangeAt b o us) :
    st' = st ∧ (∀ N, V.inNs N cs → v.inN N) ∧ ∃ val, (Instr.loadAt t (.pointer (some ⟨b, o, none⟩))).run P w = .ok val w ∧ RelV Z B w ρ v val (G ++ []) := by
  obtain ⟨d, i, z, hu, hi, hz, rfl⟩ := tyOf_spec ht
  unfold asVal at hr
  split at hr
  · rename_i hag
    rw [ofK_agg] at hag
    cases hr
    refine ⟨rfl, fun N hn => hn, .agg us.toArray, ?_, by simpa using RelVs.agg hrel hone (RelVs.nil (Z := Z) (B := B) (w := w) (ρ := ρ))⟩
    exact run_loadAt_mid w b o t us d hrange hu hag (by simp [hi, hl])
  · rename_i hag
    rw [ofK_agg] at hag
    split at hr
    · rename_i x
      cases hr
      obtain ⟨u, us', Gx, Gy, rfl, rfl, k1, k2⟩ := hrel.cons_split
      cases k2
      refine ⟨rfl, fun N hn => hn.1, u, ?_, by simpa using k1⟩
      have := run_loadVar_one (P := P) w b o t u d (by simpa using hrange 0 u rfl) hu (by simpa using hag)
      simpa [Instr.loadAt, Instr.sureAddr] using this
    · cases hr

/-- An object that was opened is closed. -/
theorem SatF.close {r s b o : Nat} {xs : List (List V)} {us vc : List Value} (h : SatF Γ Z B ρ F N st (xs.flatten ++ ps) (us ++ vc) (b :: X) tm w)
    (hl : us.length = xs.flatten.length) (hN : N r) (hst : st (.r r) = none) (hρ : ρ r = some ⟨b, o, none⟩) (hone : ∀ u ∈ us, u.oneCell' = true) (hrange : w.rangeAt b o us)
    (hblk : Blk w b (o + xs.length * s)) (huni : ∀ x ∈ xs, x.length = s) (hin : V.inNss N xs) :
    ∃ F', SatF Γ Z B ρ F' N (upd st (.r r) (some (.o s xs))) ps vc X tm w := by
  obtain ⟨Fa, Fm, Fc, e0, q1, q2, q3, n1, n2, n3⟩ := SatF.partsAt (pre := []) (mid := xs.flatten) (ps := ps) (va := []) (vm := us) (vc := vc) (by simpa using h) rfl hl
  cases q1
  have hd : F (some (.r r)) = [] := h.dead _ hst
  have hnd := h.nd (xs := [none, some (.r r)]) (by simp)
  refine ⟨fun x => if x = none then Fc ++ X else if x = some (.r r) then b :: Fm else F x, ?_⟩
  refine h.ghost [none, some (.r r)] (by simp) ?_ ?_ (by simp) (fun _ x => x) (fun _ _ => rfl) ?_ ?_ ?_ ?_ ?_ ?_
  · intro x hx
    simp only [List.mem_cons, reduceCtorEq, Option.some.injEq, List.not_mem_nil, or_false, false_or] at hx
    simp [upd, hx]
  · intro x hx
    simp only [List.mem_cons, List.not_mem_nil, or_false, not_or] at hx
    simp [hx.1, hx.2]
  · intro s c hs; simp at hs
  · intro r' c hs hc
    simp only [List.mem_cons, reduceCtorEq, Option.some.injEq, Res.r.injEq, List.not_mem_nil, or_false, false_or] at hs
    subst hs
    simp [upd] at hc
    subst hc
    exact ⟨hN, by simpa using RelO.some hρ q2 hone hrange hblk huni, hin⟩
  · intro _
    exact ⟨⟨Fc, by simp, q3⟩, n3⟩
  · intro x hx hn
    simp only [List.mem_cons, reduceCtorEq, Option.some.injEq, List.not_mem_nil, or_false, false_or] at hx
    subst hx
    simp [upd] at hn
  · simp only [List.flatMap_cons, List.flatMap_nil, List.append_nil, if_true, reduceCtorEq, if_false, hd, e0, List.nil_append] at hnd ⊢
    rw [List.nodup_iff_count] at hnd ⊢; intro t; have hnd := hnd t; simp only [List.count_append, List.count_cons, List.count_nil] at hnd ⊢; omega
  · intro x hx
    simp only [List.flatMap_cons, List.flatMap_nil, List.append_nil, if_true, reduceCtorEq, if_false, hd, e0, List.mem_append, List.mem_cons, List.nil_append] at hx ⊢
    grind

theorem RelDs.takeTo {ds : List D} {vs : List Value} {G : List Nat} (h : RelDs Z B w ds vs G) (n : Nat) : ∃ G1 G2, G = G1 ++ G2 ∧ RelDs Z B w (ds.take n) (vs.take n) G1 := by
  have hlen := h.length
  rcases Nat.lt_or_ge ds.length n with hlt | hge
  · rw [List.take_of_length_le (by omega), List.take_of_length_le (by omega)]
    exact ⟨G, [], by simp, h⟩
  · rw [← List.take_append_drop n ds] at h
    obtain ⟨va, vb, Fa, Fb, rfl, rfl, q1, q2⟩ := h.split
    refine ⟨Fa, Fb, rfl, ?_⟩
    have hl := q1.length
    have : va.length = n := by simp at hl; omega
    have e : (va ++ vb).take n = va := by rw [← this]; simp
    rw [e]
    exact q1

/-- A load through a pointer to cells that are not alone held. -/
theorem load_ptr {m : Md} {t : TypeId} {ty : Ty} {cs : List D} {val : Value} {G : List Nat} {v : V} {R W : List Res} (hm : m ≠ .own) (g1 : tyOf P t = some ty)
    (ga : RelV Z B w ρ (.d (.ptr m cs)) val G) (hle : ty.size ≤ cs.length) (hr : Run (asVal ty.k.agg ((cs.take ty.size).map .d)) st v st' R W) :
    st' = st ∧ (∀ N, v.inN N) ∧ ∃ val', (Instr.loadAt t val).run P w = .ok val' w ∧ RelV Z B w ρ v val' [] := by
  cases ga with
  | d t1 t2 =>
    cases t2
    cases t1 with
    | @ptr _ b o _ us FF _ _ _ q1 q2 q3 q4 q5 q8 =>
      cases q8
      have := q5 hm
      subst this
      obtain ⟨G1, G2, e, k1⟩ := q1.takeTo ty.size
      obtain ⟨rfl, rfl⟩ : G1 = [] ∧ G2 = [] := by simpa using e.symm
      have hl := q1.length
      have hr2 : w.rangeAt b o (us.take ty.size) := by
        have := q2
        rw [← List.take_append_drop ty.size us, rangeAt_append] at this
        exact this.1
      obtain ⟨e1, e2, val', e3, e4⟩ := asVal_load g1 hr (RelVs.ofD (ρ := ρ) k1) (fun u hu => q1.one u (List.mem_of_mem_take hu)) (by simp; omega) hr2
      exact ⟨e1, fun N => e2 N (inNs_map_d _), val', e3, e4⟩

theorem ptr_val {m : Md} {cs : List D} {val : Value} {G : List Nat} (h : RelV Z B w ρ (.d (.ptr m cs)) val G) : ∃ ad, val = .pointer (some ad) := by
  cases h with
  | d t1 t2 => cases t2; cases t1; exact ⟨_, rfl⟩

theorem load_sound {x v : V} {val : Value} {nm : Nat} {t : TypeId} {vc : List Value} {R W : List Res} (r2 : Run (loadP P t nm x) st v st' R W) (hf : ∀ r, nm ≤ r → r < nm + 64 → ¬ N r)
    (h1 : SatF Γ Z B ρ F N st (x :: ps) (val :: vc) X tm w) :
    ∃ val' ρ' F', (∃ ad, val = .pointer (some ad)) ∧ (Instr.loadAt t val).run P w = .ok val' w ∧ SatF Γ Z B ρ' F' (Nx nm N) st' (v :: ps) (val' :: vc) X tm w := by
  obtain ⟨Ga, ga⟩ := h1.head
  unfold loadP at r2
  split at r2
  · -- an object
    rename_i r s i j
    obtain ⟨ty, st2, R3, W3, R4, W4, r3, r4, -, -⟩ := r2.bind_inv
    obtain ⟨g1, rfl⟩ := ofO_run r3
    cases r4 with
    | @get _ _ _ _ c _ _ _ c1 c2 =>
      dsimp only at c2
      split at c2
      · rename_i s' xs
        obtain ⟨row, st3, R5, W5, R6, W6, r5, r6, -, -⟩ := c2.bind_inv
        obtain ⟨g2, rfl⟩ := ofO_run r5
        cases r6 with
        | req g3 r7 =>
          obtain ⟨rfl, g4⟩ := g3
          cases ga with
          | @mp _ _ _ _ b oo _ _ _ t1 t2 =>
            cases t2
            obtain ⟨F2, h2⟩ := h1.drop
            obtain ⟨us, G, hF, hrel, h0, hrange, hblk, huni, hin⟩ := h2.objAt c1 t1
            have hrange' := hrange
            obtain ⟨u1, u2, u3, G1, G2, G3, rfl, rfl, hl1, e, k1, k2, k3, hr2⟩ := seg_of (n := ty.size) hrel hrange huni g2 g4
            have hl2 : u2.length = ty.size := by rw [← k2.length]; simp; omega
            have hone2 : ∀ u ∈ u2, u.oneCell' = true := fun u hu => h0 u (by simp [hu])
            split at r7
            · -- something in it is alone held: it gets a name
              cases r7 with
              | req g5 r8 =>
                obtain ⟨seg', st4, R7, W7, R8, W8, r9, r10, -, -⟩ := r8.bind_inv
                cases r10 with
                | req g6 r11 =>
                  cases r11 with
                  | set r12 =>
                    obtain ⟨hNr, hO, hinO⟩ := h2.obj _ _ c1
                    obtain ⟨rfl, hW, hlen'⟩ := outP_rw r9
                    have hseglen : ((row.drop j).take ty.size).length = ty.size := by simp; omega
                    rw [hseglen] at hW hlen'
                    obtain ⟨⟨Fp, p1, p2⟩, p3⟩ := h2.pend
                    -- the object is opened
                    obtain ⟨F3, f3, h3⟩ := h2.regroup (r := r) (ps' := ((xs.take i).flatten ++ row.take j) ++ ((row.drop j).take ty.size ++ ((row.drop (j + ty.size) ++ (xs.drop (i + 1)).flatten) ++ ps)))
                      (vals' := u1 ++ (u2 ++ (u3 ++ vc))) (X' := b :: X) (Fp' := G1 ++ (G2 ++ (G3 ++ Fp))) hF (RelVs.append k1 (RelVs.append k2 (RelVs.append k3 p2)))
                      (by
                        have hh : V.inNs N (((xs.take i).flatten ++ row.take j) ++ ((row.drop j).take ty.size ++ (row.drop (j + ty.size) ++ (xs.drop (i + 1)).flatten))) := by rw [← e]; exact inNss_flatten hin
                        simp only [inNs_append] at hh ⊢
                        exact ⟨hh.1, hh.2.1, hh.2.2, p3⟩)
                      (by rw [p1]; intro hh; rw [List.nodup_iff_count] at hh ⊢; intro t; have hh := hh t; simp only [List.count_append, List.count_cons, List.count_nil] at hh ⊢; omega)
                      (by rw [p1]; intro x hx; simp only [List.mem_append, List.mem_cons] at hx ⊢; grind)
                    have hnotr : ∀ x ∈ W7, x ≠ .r r := by
                      intro x hx e
                      obtain ⟨k, k1, k2, k3⟩ := hW x hx
                      rw [e] at k3
                      cases k3
                      exact hf _ (by omega) (by omega) hNr
                    obtain ⟨st5, r9', hsame⟩ := r9.local (upd st3 (.r r) none) (fun x hx => by
                      have : x ∈ W7 := by simpa using hx
                      simp [upd, hnotr x this])
                    obtain ⟨ρ4, F4, a4, h4⟩ := out_sound (pre := (xs.take i).flatten ++ row.take j) (ps := (row.drop (j + ty.size) ++ (xs.drop (i + 1)).flatten) ++ ps) r9' (by
                      intro k k1 k2
                      exact hf _ (by omega) (by omega)) h3
                    have hρr : ρ4 r = some ⟨b, oo, none⟩ := by
                      rw [a4 r (fun k k1 k2 e => hf _ (by omega) (by omega) (e ▸ hNr))]
                      exact t1
                    rw [hseglen] at h4
                    obtain ⟨Fa, Fm, Fc, e0, q1, q2, q3, n1, n2, n3⟩ := h4.partsAt k1.length.symm (by rw [hl2, hlen'])
                    have hFm : Fm = [] := lin_V q2 g6
                    subst hFm
                    obtain ⟨rfl, hn, val', e1, e2⟩ := asVal_load g1 r12 q2 hone2 hl2 hr2
                    have hset : (xs.set i (setSeg row j seg')).flatten = ((xs.take i).flatten ++ row.take j) ++ (seg' ++ (row.drop (j + ty.size) ++ (xs.drop (i + 1)).flatten)) := by
                      rw [flatten_set g2]; simp [setSeg, hlen']
                    have hrl : row.length = s := huni row (List.mem_of_getElem? g2)
                    have hst5 : st5 (.r r) = none := by
                      rw [r9'.frame _ (fun hh => hnotr _ hh rfl)]
                      simp [upd]
                    have hins : V.inNss (fun r => N r ∨ (nm + 0 ≤ r ∧ r < nm + 0 + ty.size)) (xs.set i (setSeg row j seg')) := inNss_iff.2 fun x hx => by
                      have hinrow : V.inNs N row := inNss_iff.1 hin row (List.mem_of_getElem? g2)
                      rcases List.mem_or_eq_of_mem_set hx with h1 | h1
                      · exact V.inNs_mono (fun _ y => .inl y) _ (inNss_iff.1 hin x h1)
                      · rw [h1]
                        simp only [setSeg]
                        rw [inNs_append, inNs_append]
                        rw [inNs_iff] at hinrow
                        exact ⟨⟨V.inNs_mono (fun _ y => .inl y) _ (inNs_iff.2 fun x hx => hinrow x (List.mem_of_mem_take hx)), n2⟩, V.inNs_mono (fun _ y => .inl y) _ (inNs_iff.2 fun x hx => hinrow x (List.mem_of_mem_drop hx))⟩
                    have hulen : (u1 ++ (u2 ++ u3)).length = (xs.set i (setSeg row j seg')).flatten.length := by
                      rw [hset]
                      have a1 := k1.length
                      have a3 := k3.length
                      simp only [List.length_append] at a1 a3 ⊢
                      omega
                    obtain ⟨F5, h5⟩ := SatF.close (r := r) (s := s) (o := oo) (xs := xs.set i (setSeg row j seg')) (ps := ps) (vc := vc) (X := X) (us := u1 ++ (u2 ++ u3)) (by rw [hset]; simpa using h4)
                      hulen (.inl hNr) hst5 hρr h0 hrange' (by rw [List.length_set]; exact hblk)
                      (mem_set_length huni (by rw [setSeg_length (by omega)]; exact hrl)) hins
                    have hfun : upd st5 (.r r) (some (.o s (xs.set i (setSeg row j seg')))) = upd st4 (.r r) (some (.o s (xs.set i (setSeg row j seg')))) := by
                      funext x
                      simp only [upd]
                      split
                      · rfl
                      · rename_i hx'
                        by_cases hxW : x ∈ W7
                        · exact hsame x hxW
                        · rw [r9'.frame x hxW, r9.frame x hxW]
                          simp [upd, hx']
                    rw [hfun] at h5
                    exact ⟨val', ρ4, _, ⟨_, rfl⟩, e1, (h5.push (by simpa using e2) (hn _ n2)).weakN (fun r' hr' => hr'.imp id (fun hh => by omega))⟩
            · rename_i hlin
              have hG2 : G2 = [] := lin_V k2 (by simpa using hlin)
              subst hG2
              obtain ⟨rfl, hn, val', e1, e2⟩ := asVal_load g1 r7 k2 hone2 hl2 hr2
              refine ⟨val', ρ, _, ⟨_, rfl⟩, e1, (h2.push (by simpa using e2) (hn N ?_)).toNx⟩
              have hinrow : V.inNs N row := inNss_iff.1 hin row (List.mem_of_getElem? g2)
              rw [inNs_iff] at hinrow ⊢
              exact fun x hx => hinrow x (List.mem_of_mem_drop (List.mem_of_mem_take hx))
      · cases c2
  · obtain ⟨ty, st2, R3, W3, R4, W4, r3, r4, -, -⟩ := r2.bind_inv
    obtain ⟨g1, rfl⟩ := ofO_run r3
    cases r4 with
    | req g3 r7 =>
      obtain ⟨rfl, hn, val', e1, e2⟩ := load_ptr (by simp) g1 ga g3 r7
      obtain ⟨F2, h2⟩ := h1.drop
      exact ⟨val', ρ, _, ptr_val ga, e1, (h2.push e2 (hn N)).toNx⟩
  · obtain ⟨ty, st2, R3, W3, R4, W4, r3, r4, -, -⟩ := r2.bind_inv
    obtain ⟨g1, rfl⟩ := ofO_run r3
    cases r4 with
    | req g3 r7 =>
      obtain ⟨rfl, hn, val', e1, e2⟩ := load_ptr (by simp) g1 ga g3 r7
      obtain ⟨F2, h2⟩ := h1.drop
      exact ⟨val', ρ, _, ptr_val ga, e1, (h2.push e2 (hn N)).toNx⟩
  · cases r2

theorem load_ok {o : Oper} {nm : Nat} {v : V} {R W : List Res} {t : TypeId} {x : Operand} (ho : o.op = .load t x) (hr : Run ((fetchP x).bind (loadP P t nm)) st v st' R W) : OpOk P o nm st v st' := by
  rintro Γ N a w ⟨Z, B, ρ, F, h⟩ hf K Q hk
  obtain ⟨va, st1, R1, W1, R2, W2, r1, r2, -, -⟩ := hr.bind_inv
  obtain ⟨F1, h1⟩ := fetch_sound r1 (rfl : a.tmps = a.tmps) h
  obtain ⟨val', ρ', F', _, e1, h2⟩ := load_sound r2 hf h1
  refine wp_value (w' := w) (val := val') ?_ (hk _ _ h2.satP)
  simp [execOp, ho, e1]

end
end Go.Proofs.Ytdoboiiilcgbnaa.L
