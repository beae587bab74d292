/- WHAT IS PROVED: the abstract append tells what the model's does. Conditions: none. -/
import Derived.Test.YtdoboiiilcgbnaaL14
namespace Go.Proofs.Ytdoboiiilcgbnaa.L
set_option linter.unusedVariables false
set_option linter.unusedSimpArgs false

section
variable {P : Program} {Γ : Ctx} {Z B : Zone} {ρ : Names} {F : Ix → List Nat} {N : Nat → Prop} {st st' : St} {ps : List V} {vals : List Value} {X : List Nat} {tm : Array Value} {w : World}

/-- Rows that are at hand are stored behind an own row's length. -/
theorem SatF.extend {s b o c : Nat} {xs ys : List (List D)} {us news vc : List Value} {FF Fm Fc : List Nat}
    (h : SatF Γ Z B ρ F N st (.d (.row .own s xs) :: (ys.flatten.map V.d ++ ps)) (.slice (some ⟨b, o, none⟩) xs.length c :: (news ++ vc)) X tm w)
    (e : F none = (b :: (FF ++ (Fm ++ Fc))) ++ X)
    (q1 : RelDs Z B w xs.flatten us FF) (q2 : w.rangeAt b o us) (q4 : Blk w b (o + c * s)) (q6 : ∀ x ∈ xs, x.length = s)
    (k1 : RelDs Z B w ys.flatten news Fm) (k2 : RelVs Z B w ρ ps vc Fc) (hy : ∀ x ∈ ys, x.length = s) (hroom : xs.length + ys.length ≤ c) :
    w.there b (o + xs.length * s) news.length ∧
    ∃ F', SatF Γ Z B ρ F' N st (.d (.row .own s (xs ++ ys)) :: ps) (.slice (some ⟨b, o, none⟩) (xs.length + ys.length) c :: vc) X tm (w.setCells b (o + xs.length * s) news) := by
  obtain ⟨_, n2⟩ := h.pend
  have hn3 : V.inNs N ps := by
    have := n2.2
    rw [inNs_append] at this
    exact this.2
  have hul : us.length = xs.length * s := by rw [← q1.length, flatten_length q6]
  have hnl : news.length = ys.length * s := by rw [← k1.length, flatten_length hy]
  have hbound : o + xs.length * s + news.length ≤ o + c * s := by
    have : (xs.length + ys.length) * s ≤ c * s := Nat.mul_le_mul_right _ hroom
    rw [Nat.add_mul] at this
    omega
  have hthere := q4.there hbound
  refine ⟨hthere, ?_⟩
  have hnd := h.nodup none
  rw [e] at hnd
  have same : ∀ k, k ≠ b → (w.setCells b (o + xs.length * s) news).heap[k]? = w.heap[k]? := fun k hk => setCells_heap b news _ w k hk
  have hnb : ∀ x ∈ FF ++ (Fm ++ Fc), x ≠ b := by
    intro x hx e
    subst e
    rw [List.nodup_append] at hnd
    have := hnd.1
    rw [List.nodup_cons] at this
    exact this.1 hx
  have hB : ∀ k, B k → k ≠ b := by
    intro k hk e'
    subst e'
    exact (h.own none k (by rw [e]; simp)).1 hk
  have mono : ∀ {ds : List V} {vs : List Value} {G : List Nat}, RelVs Z B w ρ ds vs G → V.inNs N ds → (∀ x ∈ G, x ≠ b) → RelVs Z B (w.setCells b (o + xs.length * s) news) ρ ds vs G := by
    intro ds vs G h1 h2 h3
    exact h1.mono h2 (fun _ _ => rfl) (fun x hx => same x (h3 x hx)) (fun x hx => same x (hB x (h.zB x hx))) (fun x hx => same x (hB x hx)) (fun _ x => x) (fun _ x => x) (fun k n hk => setCells_blk b news _ w k n hk)
  have monoD : ∀ {ds : List D} {vs : List Value} {G : List Nat}, RelDs Z B w ds vs G → (∀ x ∈ G, x ≠ b) → RelDs Z B (w.setCells b (o + xs.length * s) news) ds vs G := by
    intro ds vs G h1 h3
    exact RelVs.toD (mono (RelVs.ofD h1) (inNs_map_d _) h3)
  refine ⟨fun x => if x = none then (b :: ((FF ++ Fm) ++ Fc)) ++ X else F x, ?_⟩
  refine h.step [none] (by simp) (grow_setCells _ _ _ _) ?_ (fun _ _ => rfl) ?_ (fun _ _ hs => ⟨hs, rfl⟩) (by simp) (fun _ x => x) (fun _ _ => rfl)
    (fun _ x => x) (fun _ x => x) h.zB (fun _ x => .inl x) (fun _ x => .inl x) (by simp) (by simp) ?_ (by simp) ?_ ?_
  · intro k hk hn
    refine same k (fun e' => hn ?_)
    subst e'
    simp [e]
  · intro x hx
    simp only [List.mem_cons, List.not_mem_nil, or_false] at hx
    simp [hx]
  · intro _
    refine ⟨⟨b :: ((FF ++ Fm) ++ Fc), by simp, ?_⟩, trivial, hn3⟩
    have hd : RelDs Z B (w.setCells b (o + xs.length * s) news) [.row .own s (xs ++ ys)] [.slice (some ⟨b, o, none⟩) (xs ++ ys).length c] (Md.foot .own b ++ (FF ++ Fm) ++ []) := by
      refine RelDs.row (us := us ++ news) ?_ ?_ trivial (fun _ => setCells_blk b news _ w _ _ q4) (fun hh => absurd rfl hh) ?_ (by simp; omega) .nil
      · rw [List.flatten_append]
        exact RelDs.append (monoD q1 (fun x hx => hnb x (by simp [hx]))) (monoD k1 (fun x hx => hnb x (by simp [hx])))
      · rw [rangeAt_append, hul]
        exact ⟨World.rangeAt_setCells_apart q2 _ _ _ (.inr (.inl (by omega))), World.rangeAt_setCells_same w b (o + xs.length * s) news hthere⟩
      · intro x hx
        rcases List.mem_append.1 hx with hx | hx
        · exact q6 x hx
        · exact hy x hx
    have := RelVs.d (ρ := ρ) hd (mono k2 hn3 (fun x hx => hnb x (by simp [hx])))
    simpa [Md.foot] using this
  · simpa using hnd
  · intro k hk
    simp only [List.flatMap_cons, List.flatMap_nil, List.append_nil, if_true] at hk
    have hm : k ∈ F none := by rw [e]; simpa using hk
    exact ⟨.inl (by simpa using hm), by rw [setCells_size]; exact (h.own none k hm).2.1, (h.own none k hm).1⟩

/-- Rows at hand come to lie in a new block. -/
theorem SatF.newRow {s c : Nat} {xs : List (List D)} {us vc : List Value} {rest : Array Value} {ty : TypeId}
    (h : SatF Γ Z B ρ F N st (xs.flatten.map V.d ++ ps) (us ++ vc) X tm w) (hx : ∀ x ∈ xs, x.length = s) (hl : us.length = xs.length * s) (hr : rest.size = (c - xs.length) * s) (hc : xs.length ≤ c) :
    ∃ F', SatF Γ Z B ρ F' N st (.d (.row .own s xs) :: ps) (.slice (some ⟨w.heap.size, 0, none⟩) xs.length c :: vc) X tm (w.alloc (.cells (us.toArray ++ rest) ty)) := by
  refine h.fresh (by rw [List.length_map, flatten_length hx, hl]) ?_ (fun _ => trivial)
  intro w' G _ hG hrange hblk
  have hD := RelVs.toD hG
  have := RelVs.d (ρ := ρ) (RelDs.row (m := .own) (c := c) hD hrange trivial (fun _ => hblk.le (by rw [hl, hr, ← Nat.add_mul]; exact Nat.le_of_eq (by rw [Nat.zero_add]; congr 1; omega))) (fun hh => absurd rfl hh) hx hc .nil) .nil
  simpa [Md.foot] using this

theorem append_core {t tx e ty : TypeId} {i : TypeInfo} {z : Value} {xs ys : List (List D)} {xv yv : Value} {news vc : List Value}
    (ht : P.underlying t = some (.slice e)) (hi : P.info? e = some i) (hz : i.zero = some z) (hzs : z.cells.size = i.size) (hs : Src P i.size tx yv ys.length news w)
    (h : SatF Γ Z B ρ F N st (.d (.row .own i.size xs) :: (ys.flatten.map V.d ++ ps)) (xv :: (news ++ vc)) X tm w)
    (hy : ∀ x ∈ ys, x.length = i.size) (hbytes : (xs.length + ys.length) * i.bytes ≤ 35184372088832) (hn : xs.length + ys.length ≤ 35184372088832) :
    ∃ v' w' F', (Builtin.append_ #[t, tx] ty #[xv, yv]).run P w = .ok v' w' ∧ SatF Γ Z B ρ F' N st (.d (.row .own i.size (xs ++ ys)) :: ps) (v' :: vc) X tm w' := by
  have hnl := hs.newsLen
  obtain ⟨Fa, Fm, Fc, e0, g1, g2, g3, n1, n2, n3⟩ := SatF.partsAt (pre := [.d (.row .own i.size xs)]) (mid := ys.flatten.map V.d) (ps := ps) (va := [xv]) (vm := news) (vc := vc) (by simpa using h) rfl (by rw [List.length_map, flatten_length hy, hnl])
  have k1 := RelVs.toD g2
  -- THERE IS NO ROOM
  have grow : ∀ (A : Option Addr) (c : Nat) (us : List Value) (FF : List Nat), xv = .slice A xs.length c → RelDs Z B w xs.flatten us FF → (∀ x ∈ xs, x.length = i.size) → us.length = xs.length * i.size →
      (Builtin.firstCells i.size xs.length (.slice A xs.length c)).run P w.drew = .ok us.toArray w.drew → (∀ x, (FF ++ (Fm ++ Fc)).count x ≤ (Fa ++ (Fm ++ Fc)).count x) → c < xs.length + ys.length →
      ∃ v' w' F', (Builtin.append_ #[t, tx] ty #[xv, yv]).run P w = .ok v' w' ∧ SatF Γ Z B ρ F' N st (.d (.row .own i.size (xs ++ ys)) :: ps) (v' :: vc) X tm w' := by
    rintro A c us FF rfl q1 q6 hul hold hcnt hlt
    have hrun := run_append_grow_src w t tx ty e i z ht hi hz A xs.length c us hold yv ys.length news hs hlt (by omega) (growslice_fits hlt (by omega))
    obtain ⟨F1, _, h1⟩ := h.rehand (ps' := (xs ++ ys).flatten.map V.d ++ ps) (vals' := (us ++ news) ++ vc) (X' := X) (Fp' := (FF ++ Fm) ++ Fc)
      (RelVs.append (by rw [List.flatten_append, List.map_append]; exact RelVs.append (RelVs.ofD q1) g2) g3) (by rw [inNs_append]; exact ⟨inNs_map_d _, n3⟩)
      (by rw [e0]; intro hh; rw [List.nodup_iff_count] at hh ⊢; intro t; have hh := hh t; have := hcnt t; simp only [List.count_append, List.count_cons, List.count_nil] at hh this ⊢; omega)
      (by
        rw [e0]; intro x hx
        have h1 := List.count_pos_iff.2 hx
        have h2 := hcnt x
        refine List.count_pos_iff.1 ?_
        simp only [List.count_append] at h1 h2 ⊢; omega)
    have hge := grownCap_ge w (xs.length + ys.length) c e
    obtain ⟨F2, h2⟩ := SatF.newRow (s := i.size) (c := grownCap w (xs.length + ys.length) c e) (rest := Builtin.zeroCells z.cells (grownCap w (xs.length + ys.length) c e - (xs.length + ys.length))) (ty := e) h1.drew
      (by intro x hx; rcases List.mem_append.1 hx with hx | hx; exact q6 x hx; exact hy x hx) (by simp [hul, hnl, Nat.add_mul]) (by rw [size_zeroCells, hzs]; simp) (by simpa using hge)
    refine ⟨_, _, F2, hrun, ?_⟩
    simpa using h2
  -- NOTHING THERE
  have nothing : ∀ (A : Option Addr) (c : Nat), xv = .slice A xs.length c → ys = [] → xs.length ≤ c → 
      ∃ v' w' F', (Builtin.append_ #[t, tx] ty #[xv, yv]).run P w = .ok v' w' ∧ SatF Γ Z B ρ F' N st (.d (.row .own i.size (xs ++ ys)) :: ps) (v' :: vc) X tm w' := by
    rintro A c rfl rfl hle
    have hnews : news = [] := List.length_eq_zero_iff.1 (by rw [hnl]; simp)
    subst hnews
    refine ⟨_, w, F, run_append_nothing w t tx ty e i ht hi A xs.length c hle yv hs, ?_⟩
    simpa using h
  have key : ∀ {ds : List D} {vs : List Value} {G : List Nat}, RelDs Z B w ds vs G → ds = [.row .own i.size xs] → vs = [xv] → G = Fa →
      ∃ v' w' F', (Builtin.append_ #[t, tx] ty #[xv, yv]).run P w = .ok v' w' ∧ SatF Γ Z B ρ F' N st (.d (.row .own i.size (xs ++ ys)) :: ps) (v' :: vc) X tm w' := by
    intro ds vs G hrel e1 e2 e3
    cases hrel with
    | nil => cases e1
    | p _ _ => cases e1
    | ptr _ _ _ _ _ _ => cases e1
    | none t3 =>
      rename_i m s A ds vs
      simp only [List.cons.injEq, D.row.injEq] at e1
      obtain ⟨⟨rfl, rfl, rfl⟩, rfl⟩ := e1
      simp only [List.cons.injEq] at e2
      obtain ⟨e2, rfl⟩ := e2
      cases t3
      by_cases hys : ys = []
      · exact nothing A 0 e2.symm hys (by simp)
      · have hpos : 0 < ys.length := List.length_pos_iff.2 hys
        refine grow A 0 [] [] e2.symm .nil (by simp) (by simp) ?_ (by simp) (by simpa using hpos)
        cases A with
        | none => exact run_firstCells_none (P := P) w.drew _ 0 0 0
        | some a => exact run_firstCells_some (P := P) w.drew _ 0 a 0 0 [] (by simp) (by simp)
    | @row m s b o c xs2 us FF _ _ _ q1 q2 q3 q4 q5 q6 q7 q8 =>
      simp only [List.cons.injEq, D.row.injEq] at e1
      obtain ⟨⟨rfl, rfl, rfl⟩, rfl⟩ := e1
      simp only [List.cons.injEq] at e2
      obtain ⟨e2, rfl⟩ := e2
      cases q8
      have hul : us.length = xs2.length * i.size := by rw [← q1.length, flatten_length q6]
      by_cases hroom : xs2.length + ys.length ≤ c
      · subst e2
        subst e3
        obtain ⟨hthere, F', h'⟩ := h.extend (FF := FF) (Fm := Fm) (Fc := Fc) (by rw [e0]; simp [Md.foot]) q1 q2 (q4 rfl) q6 k1 g3 hy hroom
        have hrun := run_append_room_src w t tx ty e i ht hi b o xs2.length c yv ys.length news hs hroom (fun j hj => (hthere j hj).1) (fun j hj => (hthere j hj).2)
        exact ⟨_, _, F', hrun, h'⟩
      · refine grow _ c us FF e2.symm q1 q6 hul ?_ (by intro x; rw [← e3]; simp only [List.count_append]; omega) (by omega)
        refine run_firstCells_some (P := P) w.drew _ _ _ _ _ us hul ?_
        intro j v hj
        have := q2 j v hj
        rw [Addr.add_mid]
        simpa using this
  cases g1 with
  | d t1 t2 =>
    cases t2
    exact key t1 rfl rfl (by simp)

theorem resV_size {n : Nat} {x : V} {m : Md} {s : Nat} {xs : List (List D)} {R W : List Res} (h : Run (resV n x) st (.row m s xs) st' R W) : x.rowSize = some s := by
  cases n with
  | zero => simp only [resV] at h; cases h
  | succ n =>
    unfold resV at h
    split at h
    · cases h; rfl
    · cases h with
      | @get _ _ _ _ c _ _ _ c1 c2 =>
        dsimp only at c2
        split at c2
        · cases c2 with
          | req g r =>
            cases r with
            | set r =>
              obtain ⟨_, _, _, _, _, _, _, r2, _, _⟩ := r.bind_inv
              cases r2
              rfl
        · cases c2
    · cases h with
      | @get _ _ _ _ c _ _ _ c1 c2 =>
        dsimp only at c2
        split at c2
        · cases c2 with
          | set r =>
              obtain ⟨_, _, _, _, _, _, _, r2, _, _⟩ := r.bind_inv
              cases r2
        · cases c2
    · obtain ⟨_, _, _, _, _, _, _, r2, _, _⟩ := h.bind_inv
      cases r2
      rfl
    · cases h

theorem onto_sound {x : V} {xval : Value} {xs : List (List D)} {s : Nat} {R W : List Res} (hr : Run (ontoP x) st xs st' R W) (hsz : sizeFits x s) (h : SatF Γ Z B ρ F N st (x :: ps) (xval :: vals) X tm w) :
    ∃ F', SatF Γ Z B ρ F' N st' (.d (.row .own s xs) :: ps) (xval :: vals) X tm w := by
  unfold ontoP at hr
  split at hr
  · cases hr
    obtain ⟨G, g⟩ := h.head
    have := rel_p g
    subst this
    exact h.turn (fun G _ => ⟨[], .d (.none .nil) .nil, by simp, by simp⟩) (fun _ => trivial)
  · obtain ⟨d, st1, R1, W1, R2, W2, r1, r2, -, -⟩ := hr.bind_inv
    split at r2
    · rename_i s' xs'
      cases r2
      have e := resV_size r1
      have e2 : s' = s := by
        unfold sizeFits at hsz
        rw [e] at hsz
        exact hsz
      subst e2
      exact (res_sound 7).1 _ _ _ _ _ _ [] ps _ X F r1 h
    · cases r2

theorem append_ok {o : Oper} {nm : Nat} {v : V} {R W : List Res} {t t2 : TypeId} {x y : Operand} (ho : o.op = .call { callee := .builtin .append, args := #[x, y], argTypes := #[t, t2] })
    (hr : Run ((fetchP y).bind fun b => (fetchP x).bind fun a => appendP P t t2 a b) st v st' R W) : OpOk P o nm st v st' := by
  rintro Γ N a w ⟨Z, B, ρ, F, h⟩ hf K Q hk
  obtain ⟨yv, st1, R1, W1, R2, W2, r1, r2, -, -⟩ := hr.bind_inv
  obtain ⟨xv, st2, R3, W3, R4, W4, r3, r4, -, -⟩ := r2.bind_inv
  obtain ⟨F1, h1⟩ := fetch_sound r1 (rfl : a.tmps = a.tmps) h
  obtain ⟨F2, h2⟩ := fetch_sound r3 (rfl : a.tmps = a.tmps) h1
  unfold appendP at r4
  obtain ⟨ty, st3, R5, W5, R6, W6, r5, r6, -, -⟩ := r4.bind_inv
  obtain ⟨g1, rfl⟩ := ofO_run r5
  obtain ⟨d, i, z, hu, hi, hz, rfl⟩ := tyOf_spec g1
  dsimp only at r6
  split at r6
  · rename_i e hk1
    have hd := ofK_slice hk1
    subst hd
    obtain ⟨te, st4, R7, W7, R8, W8, r7, r8, -, -⟩ := r6.bind_inv
    obtain ⟨g2, rfl⟩ := ofO_run r7
    obtain ⟨ty2, st5, R9, W9, R10, W10, r9, r10, -, -⟩ := r8.bind_inv
    obtain ⟨g3, rfl⟩ := ofO_run r9
    obtain ⟨de, ie, ze, hue, hie, hze, rfl⟩ := tyOf_spec g2
    obtain ⟨d2, i2, z2, hu2, hi2, hz2, rfl⟩ := tyOf_spec g3
    cases r10 with
    | req g4 r11 =>
      obtain ⟨s1, s2, s3, s4⟩ := g4
      dsimp only at s1 s2 s3 s4 r11
      obtain ⟨ys, st6, R11, W11, R12, W12, r12, r13, -, -⟩ := r11.bind_inv
      obtain ⟨xs, st7, R13, W13, R14, W14, r14, r15, -, -⟩ := r13.bind_inv
      cases r15 with
      | req g5 r16 =>
        cases r16
        obtain ⟨F3, h3⟩ := h2.swap
        obtain ⟨F4, news, X', h4, hsrc, hy, hnl, hone, hstr, hstr2⟩ := rows_sound r12 s2 h3
        obtain ⟨F5, h5⟩ := SatF.front (pre := ys.flatten.map V.d) (mid := [xv]) (ps := []) (va := news) (vm := [a.eval x]) (vc := []) h4 (by rw [List.length_map, flatten_length hy, hnl]) rfl
        obtain ⟨F6, h6⟩ := onto_sound r14 s1 h5
        obtain ⟨v', w', F7, hrun, h7⟩ := append_core (ty := o.type) hu hie hze (by simpa using s3) (hsrc.src hu2 s4 hnl hone hstr) h6 hy g5.1 g5.2
        obtain ⟨F8, h8⟩ := h7.dropX
        refine wp_value (w' := w') (val := v') ?_ (hk _ _ h8.toNx.satP)
        simp [execOp, ho, resolve, invoke, builtin, hrun]
  · cases r6

end
end Go.Proofs.Ytdoboiiilcgbnaa.L
