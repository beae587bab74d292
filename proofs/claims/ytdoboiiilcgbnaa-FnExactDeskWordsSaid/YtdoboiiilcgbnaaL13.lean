/- WHAT IS PROVED: the abstract stores, new variables and literals tell what the model's do. Conditions: none. -/
import Derived.Test.YtdoboiiilcgbnaaL12
namespace Go.Proofs.Ytdoboiiilcgbnaa.L
set_option linter.unusedVariables false
set_option linter.unusedSimpArgs false

section
variable {P : Program} {Γ : Ctx} {Z B : Zone} {ρ : Names} {F : Ix → List Nat} {N : Nat → Prop} {st st' : St} {ps : List V} {vals : List Value} {X : List Nat} {tm : Array Value} {w : World}

theorem run_storeAt_any (w : World) (b o : Nat) (t : TypeId) (v : Value) (n : Nat) (hi : (P.info? t).map (·.size) = some n) (hn : v.cells.toList.length = n) (ht : w.there b o n) (h1 : ∀ u ∈ v.cells.toList, u.oneCell' = true) :
    (Instr.storeAt t (.pointer (some ⟨b, o, none⟩)) v).run P w = .ok () (w.setCells b o v.cells.toList) := by
  have hst := run_storeCells_cells (P := P) b o v.cells.toList 0 w (fun j hj => by simpa using (ht j (by omega)).1) (fun j hj => by simpa using (ht j (by omega)).2) h1
  simp only [Nat.add_zero] at hst
  cases hq : P.info? t with
  | none => simp [hq] at hi
  | some i =>
    have hs : v.cells.size = i.size := by simp [hq] at hi; simp at hn; omega
    simp [Instr.storeAt, Instr.sureAddr, storeVar, sizeOf, typeInfo, hq, hs, hst]

theorem store_ok {o : Oper} {nm : Nat} {v : V} {R W : List Res} {t : TypeId} {x y : Operand} (ho : o.op = .store t x y) (hr : Run ((fetchP y).bind fun v => (fetchP x).bind (storeP P t v)) st v st' R W) : OpOk P o nm st v st' := by
  rintro Γ N a w ⟨Z, B, ρ, F, h⟩ hf K Q hk
  obtain ⟨va, st1, R1, W1, R2, W2, r1, r2, -, -⟩ := hr.bind_inv
  obtain ⟨vp, st2, R3, W3, R4, W4, r3, r4, -, -⟩ := r2.bind_inv
  obtain ⟨F1, h1⟩ := fetch_sound r1 (rfl : a.tmps = a.tmps) h
  obtain ⟨F2, h2⟩ := fetch_sound r3 (rfl : a.tmps = a.tmps) h1
  obtain ⟨Ga, ga⟩ := h2.head
  unfold storeP at r4
  split at r4
  · rename_i r s i j
    obtain ⟨ty, st3, R5, W5, R6, W6, r5, r6, -, -⟩ := r4.bind_inv
    obtain ⟨g1, rfl⟩ := ofO_run r5
    obtain ⟨cs, st4, R7, W7, R8, W8, r7, r8, -, -⟩ := r6.bind_inv
    obtain ⟨F3, h3, hone, hlen⟩ := cells_sound (pre := [.mp r s i j]) (va := [a.eval x]) (ps := []) (vc := []) r7 h2 rfl
    obtain ⟨F4, h4⟩ := SatF.drop (v := .mp r s i j) (val := a.eval x) (ps := cs ++ []) (vals := (a.eval y).cells.toList ++ []) (by simpa using h3)
    cases r8 with
    | @get _ _ _ _ c _ _ _ c1 c2 =>
      dsimp only at c2
      split at c2
      · rename_i s' xs
        obtain ⟨row, st5, R9, W9, R10, W10, r9, r10, -, -⟩ := c2.bind_inv
        obtain ⟨g2, rfl⟩ := ofO_run r9
        cases r10 with
        | req g3 r11 =>
          obtain ⟨rfl, g4, g5⟩ := g3
          cases r11 with
          | set r12 =>
            cases r12
            generalize hx : a.eval x = val at ga
            cases ga with
            | @mp _ _ _ _ b oo _ _ _ t1 t2 =>
              cases t2
              obtain ⟨d, i', z, hu, hi, hz, rfl⟩ := tyOf_spec g1
              obtain ⟨hthere, F5, h5⟩ := h4.write c1 t1 g2 g4 hone hlen
              have hrun := run_storeAt_any (P := P) w b (oo + i * s + j) t (a.eval y) i'.size (by simp [hi]) (by simp at g5; omega) (by simpa [hlen, g5] using hthere) hone
              refine wp_skip' (w' := w.setCells b (oo + i * s + j) (a.eval y).cells.toList) ?_ (hk undef _ (((h5.push (v := .tup []) (val := undef) (.tup .nil .nil) trivial).toNx).satP))
              simp [execOp, ho, hx, hrun]
      · cases c2
  · cases r4

/-- Plain cells at hand. -/
theorem SatF.pushPlain (us : List Value) (h1 : ∀ u ∈ us, u.oneCell' = true) (h : SatF Γ Z B ρ F N st ps vals X tm w) : SatF Γ Z B ρ F N st ((us.map fun u => V.d (.p u)) ++ ps) (us ++ vals) X tm w := by
  induction us with
  | nil => exact h
  | cons u us ih => exact (ih fun x hx => h1 x (by simp [hx])).push (.d (.p (h1 u (by simp)) .nil) .nil) trivial

/-- A new variable: the cells at hand lie in a new block, which gets a name. -/
theorem SatF.newVar {cs : List V} {us vc : List Value} {nm : Nat} {ty : TypeId} (h : SatF Γ Z B ρ F N st (cs ++ ps) (us ++ vc) X tm w) (hl : us.length = cs.length) (hone : ∀ u ∈ us, u.oneCell' = true) (hnm : ¬ N nm) :
    ∃ ρ' F', SatF Γ Z B ρ' F' (fun r => N r ∨ r = nm) (upd st (.r nm) (some (.o cs.length [cs]))) (.mp nm cs.length 0 0 :: ps) (.pointer (some ⟨w.heap.size, 0, none⟩) :: vc) X tm (w.alloc (.cells us.toArray ty)) := by
  obtain ⟨F1, h1⟩ := h.fresh (rest := #[]) (ty := ty) (v := .arr cs.length [cs]) (val := .slice (some ⟨w.heap.size, 0, none⟩) 1 1) hl
    (by
      intro w' G _ hG hr hb
      have := RelVs.arr (Z := Z) (B := B) (w := w') (ρ := ρ) (s := cs.length) (b := w.heap.size) (xs := [cs]) (us := us) (F := G) (by simpa using hG) hone hr (hb.le (by simp [hl])) (by simp) .nil
      simpa using this) (fun hn => ⟨hn, trivial⟩)
  rw [Array.append_empty] at h1
  have hrun : Run (nameP nm (.arr cs.length [cs])) st (.sl nm cs.length 0 1) (upd st (.r nm) (some (.o cs.length [cs]))) [] [.r nm] := .set .ret
  obtain ⟨ρ', F2, a2, h2⟩ := name_sound (pre := []) hrun hnm h1
  obtain ⟨G, H, e, g1, g2, n1, n2⟩ := SatF.headF h2
  have hρ : ρ' nm = some ⟨w.heap.size, 0, none⟩ := by
    cases g1 with
    | sl t1 t2 =>
      rcases t1 with ⟨e1, _⟩ | ⟨b, o, e1, e2, _, _⟩
      · cases e1
      · simp only [Nat.zero_mul, Nat.add_zero, Option.some.injEq, Addr.mk.injEq, and_true] at e2
        obtain ⟨rfl, rfl⟩ := e2
        exact e1
  obtain ⟨F3, h3⟩ := SatF.turnF h2 e g2 (v' := .mp nm cs.length 0 0) (val' := .pointer (some ⟨w.heap.size, 0, none⟩)) (G' := []) (by
    have := RelVs.mp (Z := Z) (B := B) (w := w.alloc (.cells us.toArray ty)) (ρ := ρ') (s := cs.length) (i := 0) (j := 0) hρ .nil
    simpa using this) (by simp) (.inr rfl) n2
  exact ⟨ρ', F3, h3⟩

theorem alloc_ok {o : Oper} {nm : Nat} {v : V} {R W : List Res} {t : TypeId} (ho : o.op = .alloc t) (hr : Run (allocP P t nm) st v st' R W) : OpOk P o nm st v st' := by
  rintro Γ N a w ⟨Z, B, ρ, F, h⟩ hf K Q hk
  unfold allocP at hr
  obtain ⟨ty, st1, R1, W1, R2, W2, r1, r2, -, -⟩ := hr.bind_inv
  obtain ⟨g1, rfl⟩ := ofO_run r1
  obtain ⟨d, i, z, hu, hi, hz, rfl⟩ := tyOf_spec g1
  cases r2 with
  | req g2 r3 =>
    cases r3 with
    | set r4 =>
      cases r4
      have h1 := SatF.pushPlain z.cells.toList g2 h
      obtain ⟨ρ', F2, h2⟩ := h1.newVar (nm := nm) (ty := t) (by simp) g2 (hf nm (by omega) (by omega))
      refine wp_value (w' := w.alloc (.cells z.cells t)) (val := .pointer (some ⟨w.heap.size, 0, none⟩)) ?_ (hk _ _ ?_)
      · simp [execOp, ho, Instr.alloc, zeroValue, typeInfo, hi, hz, newVar, newRow]
      · have := (h2.weakN Nx_one).satP
        simpa [zeroRow, Function.comp_def] using this

theorem box_ok {o : Oper} {nm : Nat} {v : V} {R W : List Res} {t : TypeId} {x : Operand} (ho : o.op = .box t x) (hr : Run ((fetchP x).bind (boxP nm)) st v st' R W) : OpOk P o nm st v st' := by
  rintro Γ N a w ⟨Z, B, ρ, F, h⟩ hf K Q hk
  obtain ⟨va, st1, R1, W1, R2, W2, r1, r2, -, -⟩ := hr.bind_inv
  obtain ⟨F1, h1⟩ := fetch_sound r1 (rfl : a.tmps = a.tmps) h
  unfold boxP at r2
  obtain ⟨cs, st2, R3, W3, R4, W4, r3, r4, -, -⟩ := r2.bind_inv
  obtain ⟨F2, h2, hone, hlen⟩ := cells_sound (pre := []) (va := []) (ps := []) (vc := []) r3 h1 rfl
  cases r4 with
  | set r5 =>
    cases r5
    obtain ⟨ρ', F3, h3⟩ := SatF.newVar (nm := nm) (ty := t) (ps := []) (vc := []) h2 hlen hone (hf nm (by omega) (by omega))
    refine wp_value (w' := w.alloc (.cells (a.eval x).cells t)) (val := .pointer (some ⟨w.heap.size, 0, none⟩)) ?_ (hk _ _ ?_)
    · simp [execOp, ho, Instr.box, newVar, newRow]
    · have := (h3.weakN Nx_one).satP
      simpa using this

/-! ### Literals -/
theorem fill_step (cells : Array Value) (off : Nat) (v : Array Value) (h : off + v.size ≤ cells.size) :
    (v.zipIdx.foldl (fun cs (c, j) => cs.setIfInBounds (off + j) c) cells).toList = setSeg cells.toList off v.toList := by
  have key : ∀ (l : List Value) (k : Nat) (cells : Array Value), off + k + l.length ≤ cells.size →
      ((l.zipIdx k).foldl (fun cs (x : Value × Nat) => cs.setIfInBounds (off + x.2) x.1) cells).toList = setSeg cells.toList (off + k) l := by
    intro l
    induction l with
    | nil => intro k cells hk; simp [setSeg]
    | cons x l ih =>
      intro k cells hk
      simp only [List.zipIdx_cons, List.foldl_cons]
      simp only [List.length_cons] at hk
      rw [ih (k + 1) _ (by simp; omega)]
      simp only [setSeg, Array.toList_setIfInBounds, List.length_cons]
      have hlt : off + k < cells.toList.length := by simp; omega
      apply List.ext_getElem?
      intro m
      simp only [List.getElem?_append, List.length_append, List.length_take, List.length_set, List.length_cons, List.getElem?_take, List.getElem?_drop, List.getElem?_set]
      grind
  have := key v.toList 0 cells (by simpa using h)
  simp only [Nat.add_zero] at this
  rw [← this, ← Array.foldl_toList]
  congr 1
  simp

theorem RelVs.cut {ds : List V} {vs : List Value} {G : List Nat} (h : RelVs Z B w ρ ds vs G) (n : Nat) : ∃ G1 G2, G = G1 ++ G2 ∧ RelVs Z B w ρ (ds.take n) (vs.take n) G1 ∧ RelVs Z B w ρ (ds.drop n) (vs.drop n) G2 := by
  have hlen := h.length
  rcases Nat.lt_or_ge ds.length n with hlt | hge
  · rw [List.take_of_length_le (by omega), List.take_of_length_le (by omega), List.drop_of_length_le (by omega), List.drop_of_length_le (by omega)]
    exact ⟨G, [], by simp, h, .nil⟩
  · rw [← List.take_append_drop n ds] at h
    obtain ⟨va, vb, Fa, Fb, rfl, rfl, q1, q2⟩ := h.split
    have hl := q1.length
    have : va.length = n := by simp at hl; omega
    have e : (va ++ vb).take n = va := by rw [← this]; simp
    have e' : (va ++ vb).drop n = vb := by rw [← this]; simp
    rw [e, e']
    exact ⟨Fa, Fb, rfl, q1, q2⟩

theorem setSeg_rel {cells cs : List V} {us vs : List Value} {G Gc : List Nat} {off : Nat} (h : RelVs Z B w ρ cells us G) (k : RelVs Z B w ρ cs vs Gc) :
    ∃ G', RelVs Z B w ρ (setSeg cells off cs) (setSeg us off vs) G' ∧ (∀ x, G'.count x ≤ G.count x + Gc.count x) := by
  obtain ⟨G1, G2, rfl, h1, h2⟩ := h.cut off
  obtain ⟨G3, G4, rfl, h3, h4⟩ := h2.cut cs.length
  have hl := k.length
  refine ⟨G1 ++ Gc ++ G4, ?_, fun x => by simp only [List.count_append]; omega⟩
  have := RelVs.append (RelVs.append h1 k) h4
  rw [List.drop_drop, List.drop_drop] at this
  simpa [setSeg, hl] using this

theorem setSeg_inNs {cells cs : List V} {off : Nat} (h : V.inNs N cells) (k : V.inNs N cs) : V.inNs N (setSeg cells off cs) := by
  simp only [setSeg]
  rw [inNs_append, inNs_append]
  rw [inNs_iff] at h
  exact ⟨⟨inNs_iff.2 fun x hx => h x (List.mem_of_mem_take hx), k⟩, inNs_iff.2 fun x hx => h x (List.mem_of_mem_drop hx)⟩

theorem put_sound {place : Nat → Option (Nat × Nat)} {a : Act} (ha : a.tmps = tm) {vc : List Value} : ∀ (parts : List (Nat × Operand)) (cells cs : List V) (st st' : St) (us : List Value) (F : Ix → List Nat) (R W : List Res),
    Run (putParts place parts cells) st cs st' R W → SatF Γ Z B ρ F N st (cells ++ ps) (us ++ vc) X tm w → us.length = cells.length → (∀ u ∈ us, u.oneCell' = true) →
    ∃ us' F', Instr.fill place us.toArray (parts.map fun (i, x) => (i, a.eval x)) = some us'.toArray ∧ SatF Γ Z B ρ F' N st' (cs ++ ps) (us' ++ vc) X tm w ∧ us'.length = cs.length ∧ (∀ u ∈ us', u.oneCell' = true) ∧ cs.length = cells.length
  | [], cells, cs, st, st', us, F, R, W, hr, h, hl, h1 => by
    simp only [putParts] at hr
    cases hr
    exact ⟨us, F, by simp [Instr.fill], h, hl, h1, rfl⟩
  | (i, x) :: rest, cells, cs, st, st', us, F, R, W, hr, h, hl, h1 => by
    simp only [putParts] at hr
    obtain ⟨v, st1, R1, W1, R2, W2, r1, r2, -, -⟩ := hr.bind_inv
    obtain ⟨cs1, st2, R3, W3, R4, W4, r3, r4, -, -⟩ := r2.bind_inv
    obtain ⟨p, st3, R5, W5, R6, W6, r5, r6, -, -⟩ := r4.bind_inv
    obtain ⟨g1, rfl⟩ := ofO_run r5
    cases r6 with
    | req g2 r7 =>
      obtain ⟨g2, g3⟩ := g2
      obtain ⟨F1, hf1⟩ := fetch_sound r1 ha h
      obtain ⟨F2, hf2, hone, hlen⟩ := cells_sound (pre := []) (va := []) (ps := cells ++ ps) (vc := us ++ vc) r3 hf1 rfl
      obtain ⟨Fa, Fm, Fc, e0, q1, q2, q3, n1, n2, n3⟩ := SatF.partsAt (pre := cs1) (mid := cells) (ps := ps) (va := (a.eval x).cells.toList) (vm := us) (vc := vc) (by simpa using hf2) hlen hl
      obtain ⟨G', k1, k2⟩ := setSeg_rel (off := p.1) q2 q1
      have hmem : ∀ x, x ∈ G' → x ∈ Fm ∨ x ∈ Fa := fun x hx => by
        have h1 := List.count_pos_iff.2 hx
        have h2 := k2 x
        rcases Nat.eq_zero_or_pos (Fm.count x) with h3 | h3
        · exact .inr (List.count_pos_iff.1 (by omega))
        · exact .inl (List.count_pos_iff.1 h3)
      obtain ⟨F3, _, hf3⟩ := hf2.rehand (ps' := setSeg cells p.1 cs1 ++ ps) (vals' := setSeg us p.1 (a.eval x).cells.toList ++ vc) (X' := X) (Fp' := G' ++ Fc) (RelVs.append k1 q3)
        (by rw [inNs_append]; exact ⟨setSeg_inNs n2 n1, n3⟩)
        (by rw [e0]; intro hh; rw [List.nodup_iff_count] at hh ⊢; intro t; have hh := hh t; have := k2 t; simp only [List.count_append, List.count_cons, List.count_nil] at hh ⊢; omega)
        (by rw [e0]; intro x hx; simp only [List.mem_append, List.mem_cons] at hx ⊢; have := hmem x; grind)
      have hsl : (setSeg us p.1 (a.eval x).cells.toList).length = us.length := setSeg_length (by omega)
      have hcl : (setSeg cells p.1 cs1).length = cells.length := setSeg_length (by omega)
      obtain ⟨us', F4, e1, hf4, e2, e3, e4⟩ := put_sound ha rest _ cs _ _ (setSeg us p.1 (a.eval x).cells.toList) F3 _ _ r7 hf3 (by rw [hsl, hcl, hl])
        (by
          intro u hu
          simp only [setSeg, List.mem_append] at hu
          rcases hu with (hu | hu) | hu
          · exact h1 u (List.mem_of_mem_take hu)
          · exact hone u hu
          · exact h1 u (List.mem_of_mem_drop hu))
      refine ⟨us', F4, ?_, hf4, e2, e3, by rw [e4, hcl]⟩
      have hsz : (a.eval x).cells.size = cs1.length := by simpa using hlen
      have hfill := fill_step us.toArray p.1 (a.eval x).cells (by simp; omega)
      have harr : (Array.foldl (fun cs (x : Value × Nat) => cs.setIfInBounds (p.1 + x.2) x.1) us.toArray (a.eval x).cells.zipIdx) = (setSeg us p.1 (a.eval x).cells.toList).toArray := by
        apply Array.ext'
        simpa using hfill
      obtain ⟨off, size⟩ := p
      simp only [List.map_cons, Instr.fill, g1]
      rw [if_neg]
      · rw [harr]; exact e1
      · simp at g2 g3 hsz ⊢
        omega

theorem places_of {fa : List Field} {pl : List (Nat × Nat)} (h : structPlaces P (fa.map fun f => (f.offset, f.type)) = some pl) : fa.mapM (fun f => (P.info? f.type).map fun i => (f.offset, i.size)) = some pl := by
  induction fa generalizing pl with
  | nil => simp [structPlaces] at h; subst h; rfl
  | cons f fa ih =>
    simp only [List.map_cons, structPlaces, Option.bind_eq_some_iff, Option.map_eq_some_iff] at h
    obtain ⟨te, h1, pl', h2, rfl⟩ := h
    obtain ⟨d, i, z, hu, hi, hz, rfl⟩ := tyOf_spec h1
    rw [List.mapM_cons, ih h2]
    simp [hi]

theorem chunks_spec (s : Nat) : ∀ (n : Nat) (l : List V), l.length = n * s → (chunks s n l).flatten = l ∧ (chunks s n l).length = n ∧ ∀ x ∈ chunks s n l, x.length = s
  | 0, l, h => by simp at h; subst h; simp [chunks]
  | n + 1, l, h => by
    have h' : l.length = n * s + s := by rw [h, Nat.add_mul, Nat.one_mul]
    obtain ⟨a1, a2, a3⟩ := chunks_spec s n (l.drop s) (by simp; omega)
    simp only [chunks]
    refine ⟨by simp [a1], by simp [a2], ?_⟩
    intro x hx
    rcases List.mem_cons.1 hx with rfl | hx
    · simp; omega
    · exact a3 x hx

theorem build_ok {o : Oper} {nm : Nat} {v : V} {R W : List Res} {t : TypeId} {parts : Array (Nat × Operand)} (ho : o.op = .build t parts) (hr : Run (buildP P t parts.toList) st v st' R W) : OpOk P o nm st v st' := by
  rintro Γ N a w ⟨Z, B, ρ, F, h⟩ hf K Q hk
  unfold buildP at hr
  obtain ⟨ty, st1, R1, W1, R2, W2, r1, r2, -, -⟩ := hr.bind_inv
  obtain ⟨g1, rfl⟩ := ofO_run r1
  obtain ⟨d, i, z, hu, hi, hz, rfl⟩ := tyOf_spec g1
  cases r2 with
  | req g2 r3 =>
    have h1 := SatF.pushPlain z.cells.toList g2 h
    have hz' : (zeroRow { k := TyK.of d, size := i.size, bytes := i.bytes, zero := z.cells.toList }).map V.d = z.cells.toList.map fun u => V.d (.p u) := by simp [zeroRow, Function.comp_def]
    have fin : ∀ (place : Nat → Option (Nat × Nat)) (cs : List V) (R W : List Res), Run (putParts place parts.toList ((zeroRow { k := TyK.of d, size := i.size, bytes := i.bytes, zero := z.cells.toList }).map V.d)) st1 cs st' R W →
        v = .agg cs → (∀ us' : List Value, Instr.fill place z.cells (parts.toList.map fun (i, x) => (i, a.eval x)) = some us'.toArray → (execOp a.eval o).run P w = .ok (.value (.agg us'.toArray)) w) → o.wp P a w K Q := by
      intro place cs R W rr hv hrun
      subst hv
      rw [hz'] at rr
      obtain ⟨us', F', e1, h2, e2, e3, e4⟩ := put_sound (a := a) rfl (ps := []) (vc := []) parts.toList _ cs _ _ z.cells.toList F R W rr (by simpa using h1) (by simp) g2
      obtain ⟨⟨Fp, p1, p2⟩, p3⟩ := h2.pend
      simp only [List.append_nil] at p2 p3
      obtain ⟨F2, _, h3⟩ := h2.rehand (ps' := [.agg cs]) (vals' := [.agg us'.toArray]) (X' := []) (Fp' := Fp ++ []) (RelVs.agg p2 e3 .nil) ⟨p3, trivial⟩ (by rw [p1]; simp) (by rw [p1]; simp)
      exact wp_value (hrun us' (by simpa using e1)) (hk _ _ h3.toNx.satP)
    dsimp only at r3
    split at r3
    · rename_i fs hk'
      obtain ⟨fa, rfl, rfl⟩ := ofK_struct hk'
      obtain ⟨pl, st2, R3, W3, R4, W4, r4, r5, -, -⟩ := r3.bind_inv
      obtain ⟨g3, rfl⟩ := ofO_run r4
      obtain ⟨cs, st3, R5, W5, R6, W6, r6, r7, -, -⟩ := r5.bind_inv
      cases r7
      refine fin _ cs R5 W5 r6 rfl (fun us' hfill => ?_)
      have hpl := run_places (P := P) w fa.toList pl (places_of g3)
      have hfill' : Instr.fill (fun x => pl[x]?) z.cells (List.map (fun a_1 => (a_1.fst, a.eval a_1.snd)) parts.toList) = some us'.toArray := by simpa using hfill
      simp [execOp, ho, Instr.build, zeroValue, typeInfo, hi, hz, run_underlying hu, Array.mapM_eq_mapM_toList, hpl, hfill']
    · rename_i n e hk'
      have := ofK_array hk'; subst this
      obtain ⟨te, st2, R3, W3, R4, W4, r4, r5, -, -⟩ := r3.bind_inv
      obtain ⟨g3, rfl⟩ := ofO_run r4
      obtain ⟨d', i', z', hu', hi', hz', rfl⟩ := tyOf_spec g3
      obtain ⟨cs, st3, R5, W5, R6, W6, r6, r7, -, -⟩ := r5.bind_inv
      cases r7
      refine fin _ cs R5 W5 r6 rfl (fun us' hfill => ?_)
      have hfill' : Instr.fill (fun i => some (i * i'.size, i'.size)) z.cells (List.map (fun a_1 => (a_1.fst, a.eval a_1.snd)) parts.toList) = some us'.toArray := by simpa using hfill
      simp [execOp, ho, Instr.build, zeroValue, sizeOf, typeInfo, hi, hz, hi', run_underlying hu, hfill']
    · cases r3

/-! ### Rows of noughts -/
theorem zeros_toList (zero : Array Value) (n s : Nat) (hs : zero.size = s) : ((Array.range (n * s)).map (zero[· % zero.size]!)).toList = (List.replicate n zero.toList).flatten := by
  subst hs
  rw [Array.toList_map, Array.toList_range]
  induction n with
  | zero => simp
  | succ n ih =>
    rw [Nat.add_mul, Nat.one_mul, List.range_add, List.map_append, ih, List.replicate_succ', List.flatten_append]
    congr 1
    simp only [List.flatten_cons, List.flatten_nil, List.append_nil, List.map_map]
    apply List.ext_getElem?
    intro m
    simp only [List.getElem?_map]
    rcases Nat.lt_or_ge m zero.size with h | h
    · rw [List.getElem?_range h]
      simp only [Option.map_some, Function.comp]
      rw [Array.getElem?_toList, Array.getElem?_eq_getElem h]
      congr 1
      rw [Nat.add_comm, Nat.add_mul_mod_self_right, Nat.mod_eq_of_lt h]
      simp [h]
    · rw [List.getElem?_eq_none (by simpa using h)]
      simp [h]

theorem replicate_flatten_length {α : Type} (n : Nat) (l : List α) : (List.replicate n l).flatten.length = n * l.length := by simp

theorem buildSlice_ok {o : Oper} {nm : Nat} {v : V} {R W : List Res} {t : TypeId} {len : Nat} {parts : Array (Nat × Operand)} (ho : o.op = .buildSlice t len parts)
    (hr : Run (buildSliceP P t len parts.toList) st v st' R W) : OpOk P o nm st v st' := by
  rintro Γ N a w ⟨Z, B, ρ, F, h⟩ hf K Q hk
  unfold buildSliceP at hr
  obtain ⟨ty, st1, R1, W1, R2, W2, r1, r2, -, -⟩ := hr.bind_inv
  obtain ⟨g1, rfl⟩ := ofO_run r1
  obtain ⟨d, i, z, hu, hi, hz, rfl⟩ := tyOf_spec g1
  dsimp only at r2
  split at r2
  · rename_i e hk'
    have := ofK_slice hk'; subst this
    obtain ⟨te, st2, R3, W3, R4, W4, r3, r4, -, -⟩ := r2.bind_inv
    obtain ⟨g2, rfl⟩ := ofO_run r3
    obtain ⟨d', i', z', hu', hi', hz', rfl⟩ := tyOf_spec g2
    cases r4 with
    | req g3 r5 =>
      obtain ⟨g4, g5, g6⟩ := g3
      obtain ⟨cs, st3, R5, W5, R6, W6, r6, r7, -, -⟩ := r5.bind_inv
      cases r7
      dsimp only at g4 g5 g6 r6
      have hone0 : ∀ u ∈ (List.replicate len z'.cells.toList).flatten, u.oneCell' = true := by
        intro u hu
        obtain ⟨l, hl, hu⟩ := List.mem_flatten.1 hu
        rw [(List.mem_replicate.1 hl).2] at hu
        exact g6 u hu
      have h1 := SatF.pushPlain _ hone0 h
      have e1 : (List.replicate len (z'.cells.toList.map fun v => V.d (.p v))).flatten = (List.replicate len z'.cells.toList).flatten.map fun u => V.d (.p u) := by
        simp [List.map_flatten]
      rw [e1] at r6
      obtain ⟨us', F', e2, h2, e3, e4, e5⟩ := put_sound (a := a) rfl (ps := []) (vc := []) parts.toList _ cs _ _ _ F R5 W5 r6 (by simpa using h1) (by simp) hone0
      have hcl : cs.length = len * i'.size := by rw [e5]; simp at g5 ⊢; rw [g5]
      obtain ⟨ch1, ch2, ch3⟩ := chunks_spec i'.size len cs hcl
      obtain ⟨F3, h3⟩ := h2.fresh (rest := #[]) (ty := e) (v := .arr i'.size (chunks i'.size len cs)) (val := .slice (some ⟨w.heap.size, 0, none⟩) len len) e3
        (by
          intro w' G _ hG hr hb
          have := RelVs.arr (Z := Z) (B := B) (w := w') (ρ := ρ) (s := i'.size) (b := w.heap.size) (xs := chunks i'.size len cs) (us := us') (F := G) (by rw [ch1]; exact hG) e4 hr (hb.le (by rw [ch2]; simp [e3, hcl])) ch3 .nil
          rw [ch2] at this
          simpa using this) (fun hn => by
          have : V.inNss N (chunks i'.size len cs) := inNss_iff.2 fun x hx => inNs_iff.2 fun y hy => inNs_iff.1 hn y (by rw [← ch1]; exact List.mem_flatten.2 ⟨x, hx, hy⟩)
          exact this)
      rw [Array.append_empty] at h3
      have hzl := zeros_toList z'.cells len i'.size (by simpa using g5)
      have hzero : (if len * i'.size = 0 then (#[] : Array Value) else z'.cells) = (if len * i'.size = 0 then (#[] : Array Value) else z'.cells) := rfl
      refine wp_value (w' := w.alloc (.cells us'.toArray e)) (val := .slice (some ⟨w.heap.size, 0, none⟩) len len) ?_ (hk _ _ h3.toNx.satP)
      have hlim : ¬ (16777216 < len * i'.size) := by omega
      have hfill : Instr.fill (fun i => some (i * i'.size, i'.size)) ((Array.range (len * i'.size)).map (z'.cells[· % z'.cells.size]!)) (List.map (fun a_1 => (a_1.fst, a.eval a_1.snd)) parts.toList) = some us'.toArray := by
        have : (Array.range (len * i'.size)).map (z'.cells[· % z'.cells.size]!) = ((List.replicate len z'.cells.toList).flatten).toArray := by
          apply Array.ext'; rw [hzl]
        rw [this]
        simpa using e2
      by_cases h0 : len * i'.size = 0
      · have er : Array.range 0 = #[] := rfl
        have hfill0 : Instr.fill (fun i => some (i * i'.size, i'.size)) (#[] : Array Value) (List.map (fun a_1 => (a_1.fst, a.eval a_1.snd)) parts.toList) = some us'.toArray := by
          rw [h0, er] at hfill
          simpa using hfill
        simp [execOp, ho, Instr.buildSlice, run_underlying hu, sizeOf, typeInfo, hi', h0, newRow, er, hfill0]
      · simp [execOp, ho, Instr.buildSlice, run_underlying hu, sizeOf, typeInfo, hi', hlim, h0, zeroValue, hz', newRow, hfill]
  · cases r2

theorem makeSlice_ok {o : Oper} {nm : Nat} {v : V} {R W : List Res} {t : TypeId} {x y : Operand} (ho : o.op = .makeSlice t x y)
    (hr : Run ((fetchP x).bind fun a => (fetchP y).bind fun b => (Prog.ofO a.asInt).bind fun l => (Prog.ofO b.asInt).bind fun c => makeSliceP P t l c) st v st' R W) : OpOk P o nm st v st' := by
  rintro Γ N a w ⟨Z, B, ρ, F, h⟩ hf K Q hk
  obtain ⟨vx, st1, R1, W1, R2, W2, r1, r2, -, -⟩ := hr.bind_inv
  obtain ⟨vy, st2, R3, W3, R4, W4, r3, r4, -, -⟩ := r2.bind_inv
  obtain ⟨l, st3, R5, W5, R6, W6, r5, r6, -, -⟩ := r4.bind_inv
  obtain ⟨gl, rfl⟩ := ofO_run r5
  obtain ⟨c, st4, R7, W7, R8, W8, r7, r8, -, -⟩ := r6.bind_inv
  obtain ⟨gc, rfl⟩ := ofO_run r7
  obtain ⟨F1, h1⟩ := fetch_sound r1 (rfl : a.tmps = a.tmps) h
  obtain ⟨F2, h2⟩ := fetch_sound r3 (rfl : a.tmps = a.tmps) h1
  obtain ⟨Gy, gy⟩ := h2.head
  obtain ⟨F3, h3⟩ := h2.drop
  obtain ⟨Gx, gx⟩ := h3.head
  obtain ⟨F4, h4⟩ := h3.drop
  obtain ⟨kx, ex⟩ := asInt_val gl gx
  obtain ⟨ky, ey⟩ := asInt_val gc gy
  unfold makeSliceP at r8
  obtain ⟨ty, st5, R9, W9, R10, W10, r9, r10, -, -⟩ := r8.bind_inv
  obtain ⟨g1, rfl⟩ := ofO_run r9
  obtain ⟨d, i, z, hu, hi, hz, rfl⟩ := tyOf_spec g1
  dsimp only at r10
  split at r10
  · rename_i e hk'
    have := ofK_slice hk'; subst this
    obtain ⟨te, st6, R11, W11, R12, W12, r11, r12, -, -⟩ := r10.bind_inv
    obtain ⟨g2, rfl⟩ := ofO_run r11
    obtain ⟨d', i', z', hu', hi', hz', rfl⟩ := tyOf_spec g2
    cases r12 with
    | req g3 r13 =>
      cases r13
      obtain ⟨q1, q2, q3, q4, q5, q6⟩ := g3
      dsimp only at q3 q5 q6
      obtain ⟨ln, rfl⟩ := Int.eq_ofNat_of_zero_le q1
      obtain ⟨cn, rfl⟩ := Int.eq_ofNat_of_zero_le (Int.le_trans q1 q2)
      have hlc : ln ≤ cn := by omega
      have hwl : IntKind.i64.wrap (ln : Int) = ln := by simp only [IntKind.wrap, IntKind.signed, IntKind.bits]; simp; omega
      have hwc : IntKind.i64.wrap (cn : Int) = cn := by simp only [IntKind.wrap, IntKind.signed, IntKind.bits]; simp; omega
      have hone0 : ∀ u ∈ (List.replicate ln z'.cells.toList).flatten, u.oneCell' = true := by
        intro u hu
        obtain ⟨l, hl, hu⟩ := List.mem_flatten.1 hu
        rw [(List.mem_replicate.1 hl).2] at hu
        exact q6 u hu
      have h5 := SatF.pushPlain _ hone0 h4
      have hzl := zeros_toList z'.cells cn i'.size (by simpa using q5)
      have hsplit : (List.replicate cn z'.cells.toList).flatten = (List.replicate ln z'.cells.toList).flatten ++ (List.replicate (cn - ln) z'.cells.toList).flatten := by
        rw [← List.flatten_append, List.replicate_append_replicate]
        congr 2; omega
      have harr : (Array.range (cn * i'.size)).map (z'.cells[· % z'.cells.size]!) = ((List.replicate ln z'.cells.toList).flatten).toArray ++ ((List.replicate (cn - ln) z'.cells.toList).flatten).toArray := by
        apply Array.ext'; rw [hzl, hsplit]; simp
      obtain ⟨F6, h6⟩ := h5.fresh (rest := ((List.replicate (cn - ln) z'.cells.toList).flatten).toArray) (ty := e) (v := .d (.row .own i'.size (List.replicate ln (z'.cells.toList.map D.p)))) (val := .slice (some ⟨w.heap.size, 0, none⟩) ln cn) (by simp)
        (by
          intro w' G _ hG hr hb
          have e1 : ((List.replicate ln z'.cells.toList).flatten.map fun u => V.d (.p u)) = ((List.replicate ln (z'.cells.toList.map D.p)).flatten).map V.d := by
            simp [List.map_flatten, Function.comp_def]
          rw [e1] at hG
          have hG' := RelVs.toD hG
          have := RelVs.d (RelDs.row (Z := Z) (B := B) (w := w') (m := .own) (s := i'.size) (c := cn) (xs := List.replicate ln (z'.cells.toList.map D.p)) hG' hr trivial (fun _ => hb.le (by
            simp at q5 ⊢
            rw [q5, ← Nat.add_mul]
            have : ln + (cn - ln) = cn := by omega
            rw [this]; exact Nat.le_refl _)) (fun e => absurd rfl e) (fun x hx => by rw [(List.mem_replicate.1 hx).2]; simpa using q5) (by simpa using hlc) .nil) (RelVs.nil (ρ := ρ))
          simpa [Md.foot] using this) (fun _ => trivial)
      refine wp_value (w' := w.alloc (.cells ((Array.range (cn * i'.size)).map (z'.cells[· % z'.cells.size]!)) e)) (val := .slice (some ⟨w.heap.size, 0, none⟩) ln cn) ?_ (hk _ _ ?_)
      · have hb1 : ¬ (281474976710656 < (i'.bytes : Int) * (cn : Int)) := by
          have : ((cn : Int) * (i'.bytes : Int)) = (i'.bytes : Int) * (cn : Int) := Int.mul_comm _ _
          omega
        have hb2 : cn * i'.bytes ≤ 140737488355328 := by
          have h7 : ((cn * i'.bytes : Nat) : Int) = (cn : Int) * (i'.bytes : Int) := by simp
          omega
        have hroom : (askRoom (cn * i'.bytes)).run P w = .ok () w := by
          have hn : ¬ (cn * i'.bytes > roomBytes) := by simp only [roomBytes]; omega
          unfold askRoom
          exact if_neg hn ▸ rfl
        have hcneg : ¬ ((cn : Int) < 0) := by omega
        have hlneg : ¬ ((ln : Int) < 0) := by omega
        have hlcneg : ¬ ((cn : Int) < (ln : Int)) := by omega
        by_cases h0 : cn * i'.size = 0
        · have er : Array.range 0 = #[] := rfl
          simp [execOp, ho, Instr.makeSlice, er, run_underlying hu, ex, ey, asInt, asIntOf, typeInfo, hi', hwl, hwc, hb1, hcneg, hlneg, hlcneg, hroom, sizeOf, h0, newRow]
        · simp [execOp, ho, Instr.makeSlice, run_underlying hu, ex, ey, asInt, asIntOf, typeInfo, hi', hwl, hwc, hb1, hcneg, hlneg, hlcneg, hroom, sizeOf, h0, zeroValue, hz', newRow]
      · rw [harr]
        have := h6.toNx (nm := nm) |>.satP
        simpa [zeroRow] using this
  · cases r10

end
end Go.Proofs.Ytdoboiiilcgbnaa.L
