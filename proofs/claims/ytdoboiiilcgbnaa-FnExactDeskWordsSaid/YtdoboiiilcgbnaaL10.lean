/- WHAT IS PROVED: the abstract indexing, cutting, reading and storing tell what the model's do. Conditions: none. -/
import Derived.Test.YtdoboiiilcgbnaaL9
namespace Go.Proofs.Ytdoboiiilcgbnaa.L
set_option linter.unusedVariables false
set_option linter.unusedSimpArgs false

section
variable {P : Program} {Γ : Ctx} {Z B : Zone} {ρ : Names} {F : Ix → List Nat} {N : Nat → Prop} {st st' : St} {ps : List V} {vals : List Value} {X : List Nat} {tm : Array Value} {w : World}

theorem RelVs.dropTo {ds : List V} {vs : List Value} {G : List Nat} (h : RelVs Z B w ρ ds vs G) (n : Nat) : ∃ G1 G2, G = G1 ++ G2 ∧ RelVs Z B w ρ (ds.drop n) (vs.drop n) G2 := by
  have hlen := h.length
  rcases Nat.lt_or_ge ds.length n with hlt | hge
  · rw [List.drop_of_length_le (by omega), List.drop_of_length_le (by omega)]
    exact ⟨G, [], by simp, .nil⟩
  · rw [← List.take_append_drop n ds] at h
    obtain ⟨va, vb, Fa, Fb, rfl, rfl, q1, q2⟩ := h.split
    refine ⟨Fa, Fb, rfl, ?_⟩
    have hl := q1.length
    have : va.length = n := by simp at hl; omega
    have e : (va ++ vb).drop n = vb := by rw [← this]; simp
    rw [e]
    exact q2

theorem RelVs.takeTo {ds : List V} {vs : List Value} {G : List Nat} (h : RelVs Z B w ρ ds vs G) (n : Nat) : ∃ G1 G2, G = G1 ++ G2 ∧ RelVs Z B w ρ (ds.take n) (vs.take n) G1 := by
  have hlen := h.length
  rcases Nat.lt_or_ge ds.length n with hlt | hge
  · rw [List.take_of_length_le (by omega), List.take_of_length_le (by omega)]
    exact ⟨G, [], by simp, h⟩
  · rw [← List.take_append_drop n ds] at h
    obtain ⟨va, vb, Fa, Fb, rfl, rfl, q1, q2⟩ := h.split
    refine ⟨Fa, Fb, rfl, ?_⟩
    have hl := q1.length
    have : va.length = n := by simp at hl; omega
    have e : (va ++ vb).take n = va := by rw [← this]; simp
    rw [e]
    exact q1

/-- The front, with what it holds. -/
theorem SatF.headF {v : V} {val : Value} (h : SatF Γ Z B ρ F N st (v :: ps) (val :: vals) X tm w) :
    ∃ G H, F none = (G ++ H) ++ X ∧ RelV Z B w ρ v val G ∧ RelVs Z B w ρ ps vals H ∧ v.inN N ∧ V.inNs N ps := by
  obtain ⟨⟨Fp, p1, p2⟩, p3⟩ := h.pend
  obtain ⟨v0, vs', Fx, G, e, rfl, q1, q2⟩ := p2.cons_split
  cases e
  exact ⟨Fx, G, p1, q1, q2, p3.1, p3.2⟩

theorem SatF.turnF {v v' : V} {val val' : Value} {G G' H : List Nat} (h : SatF Γ Z B ρ F N st (v :: ps) (val :: vals) X tm w) (e : F none = (G ++ H) ++ X) (hH : RelVs Z B w ρ ps vals H)
    (k1 : RelV Z B w ρ v' val' G') (k2 : ∀ x, G'.count x ≤ G.count x) (hn : v'.inN N) (hp : V.inNs N ps) : ∃ F', SatF Γ Z B ρ F' N st (v' :: ps) (val' :: vals) X tm w := by
  have k3 : ∀ x, x ∈ G' → x ∈ G := fun x hx => by
    have h1 := List.count_pos_iff.2 hx
    have h2 := k2 x
    exact List.count_pos_iff.1 (by omega)
  obtain ⟨F', _, h'⟩ := h.rehand (ps' := v' :: ps) (vals' := val' :: vals) (X' := X) (Fp' := G' ++ H) (RelVs.append k1 hH) ⟨hn, hp⟩
    (by rw [e]; intro hh; rw [List.nodup_iff_count] at hh ⊢; intro t; have hh := hh t; have := k2 t; simp only [List.count_append, List.count_cons, List.count_nil] at hh ⊢; omega)
    (by rw [e]; intro x hx; simp only [List.mem_append, List.mem_cons] at hx ⊢; have := k3 x; grind)
  exact ⟨F', h'⟩

theorem asInt_val {v : V} {i : Int} {val : Value} {G : List Nat} (h : v.asInt = some i) (hv : RelV Z B w ρ v val G) : ∃ k, val = .int k i := by
  unfold V.asInt at h
  split at h
  · rename_i k n
    simp only [Option.some.injEq] at h
    subst h
    exact ⟨k, rel_p hv⟩
  · cases h

/-- A pointer to a row that is not alone held, out of a slice of such rows. -/
theorem row_at {m : Md} {s : Nat} {xs : List (List D)} {val : Value} {G : List Nat} {i : Nat} {row : List D} (hm : m ≠ .own) (h : RelV Z B w ρ (.d (.row m s xs)) val G) (hi : xs[i]? = some row) :
    ∃ b o c, val = .slice (some ⟨b, o, none⟩) xs.length c ∧ RelV Z B w ρ (.d (.ptr m row)) (.pointer (some ⟨b, o + i * s, none⟩)) [] := by
  have hlt := (List.getElem?_eq_some_iff.1 hi).1
  cases h with
  | d t1 t2 =>
    cases t2
    cases t1 with
    | none => simp at hlt
    | @row _ _ b o c _ us FF _ _ _ q1 q2 q3 q4 q5 q6 q7 q8 =>
      cases q8
      refine ⟨b, o, c, rfl, ?_⟩
      have := q5 hm
      subst this
      rw [flatten_at hi] at q1
      obtain ⟨u1, u23, G1, G23, rfl, e, k1, k23⟩ := q1.split
      obtain ⟨u2, u3, G2, G3, rfl, e', k2, k3⟩ := k23.split
      obtain ⟨rfl, rfl⟩ : G1 = [] ∧ G23 = [] := by simpa using e.symm
      obtain ⟨rfl, rfl⟩ : G2 = [] ∧ G3 = [] := by simpa using e'.symm
      have hl : u1.length = i * s := by rw [← k1.length, flatten_take_length q6 (by omega)]
      rw [rangeAt_append, rangeAt_append, hl] at q2
      have := RelVs.d (RelDs.ptr (m := m) (G := []) k2 q2.2.1 q3 (fun e => absurd e hm) (fun _ => rfl) .nil) (RelVs.nil (Z := Z) (B := B) (w := w) (ρ := ρ))
      have hf : m.foot b = [] := by cases m <;> first | rfl | exact absurd rfl hm
      rw [hf] at this
      exact this

theorem run_indexAt_slice {t e : TypeId} {i : TypeInfo} (hu : P.underlying t = some (.slice e)) (hi : P.info? e = some i) {b o n c : Nat} {k : IntKind} {ix : Int} (h0 : 0 ≤ ix) (h1 : ix < n) :
    (Instr.indexAt t (.slice (some ⟨b, o, none⟩) n c) (.int k ix)).run P w = .ok (.pointer (some ⟨b, o + ix.toNat * i.size, none⟩)) w := by
  simp [Instr.indexAt, asIntOf, run_underlying hu, h0, h1, sizeOf, typeInfo, hi, Addr.add_mid]

theorem run_indexAt_array {t e : TypeId} {i : TypeInfo} {n : Nat} (hu : P.underlying t = some (.array n e)) (hi : P.info? e = some i) {b o : Nat} {k : IntKind} {ix : Int} (h0 : 0 ≤ ix) (h1 : ix < n) :
    (Instr.indexAt t (.pointer (some ⟨b, o, none⟩)) (.int k ix)).run P w = .ok (.pointer (some ⟨b, o + ix.toNat * i.size, none⟩)) w := by
  simp [Instr.indexAt, asIntOf, run_underlying hu, h0, h1, sizeOf, typeInfo, hi, Addr.add_mid, Instr.sureAddr]

theorem ptr_dropAny {m : Md} {cs : List D} {val : Value} {G : List Nat} {n : Nat} (hm : m ≠ .own) (h : RelV Z B w ρ (.d (.ptr m cs)) val G) :
    ∃ b o, val = .pointer (some ⟨b, o, none⟩) ∧ RelV Z B w ρ (.d (.ptr m (cs.drop n))) (.pointer (some ⟨b, o + n, none⟩)) [] := by
  obtain ⟨b, o, e1, e2⟩ := ptr_drop (n := n) hm h
  refine ⟨b, o, e1, ?_⟩
  by_cases hle : n ≤ cs.length
  · exact e2 hle
  · subst e1
    cases h with
    | d t1 t2 =>
      cases t2
      cases t1 with
      | ptr q1 q2 q3 q4 q5 q8 =>
        rw [List.drop_of_length_le (by omega)]
        have := RelVs.d (RelDs.ptr (Z := Z) (B := B) (w := w) (m := m) (b := b) (o := o + n) (cs := []) (us := []) (F := []) .nil (fun j v hv => by simp at hv) q3 (fun e => absurd e hm) (fun _ => rfl) .nil) (RelVs.nil (ρ := ρ))
        have hf : m.foot b = [] := by cases m <;> first | rfl | exact absurd rfl hm
        rw [hf] at this
        exact this

theorem indexAddr_ok {o : Oper} {nm : Nat} {v : V} {R W : List Res} {t : TypeId} {x y : Operand} (ho : o.op = .indexAddr t x y)
    (hr : Run ((fetchN nm x).bind fun v => (fetchP y).bind fun i => (Prog.ofO i.asInt).bind (indexAddrP P t v)) st v st' R W) : OpOk P o nm st v st' := by
  rintro Γ N a w ⟨Z, B, ρ, F, h⟩ hf K Q hk
  obtain ⟨va, st1, R1, W1, R2, W2, r1, r2, -, -⟩ := hr.bind_inv
  obtain ⟨vi, st2, R3, W3, R4, W4, r3, r4, -, -⟩ := r2.bind_inv
  obtain ⟨ix, st3, R5, W5, R6, W6, r5, r6, -, -⟩ := r4.bind_inv
  obtain ⟨gi, rfl⟩ := ofO_run r5
  obtain ⟨ρ', F1, h1⟩ := fetchN_sound r1 (hf nm (by omega) (by omega)) rfl h
  obtain ⟨F2, h2⟩ := fetch_sound r3 (rfl : a.tmps = a.tmps) h1
  obtain ⟨Gi, gi'⟩ := h2.head
  obtain ⟨k, ek⟩ := asInt_val gi gi'
  obtain ⟨F3, h3⟩ := h2.drop
  obtain ⟨Ga, ga⟩ := h3.head
  have fin : ∀ val', st' = st3 → (Instr.indexAt t (a.eval x) (.int k ix)).run P w = .ok val' w → RelV Z B w ρ' v val' [] → (va.inN (fun r => N r ∨ r = nm) → v.inN (fun r => N r ∨ r = nm)) → o.wp P a w K Q := by
    intro val' e1 e2 e3 e4
    subst e1
    obtain ⟨F4, h6⟩ := h3.turn (v' := v) (val' := val') (fun G g => ⟨[], e3, by simp, by simp⟩) e4
    refine wp_value (w' := w) ?_ (hk _ _ (h6.weakN Nx_one).satP)
    simp [execOp, ho, ek, e2]
  unfold indexAddrP at r6
  obtain ⟨ty, st4, R7, W7, R8, W8, r7, r8, -, -⟩ := r6.bind_inv
  obtain ⟨g1, rfl⟩ := ofO_run r7
  obtain ⟨d, i, z, hu, hi, hz, rfl⟩ := tyOf_spec g1
  dsimp only at r8
  split at r8
  · rename_i e hke
    have := ofK_slice hke; subst this
    obtain ⟨te, st5, R9, W9, R10, W10, r9, r10, -, -⟩ := r8.bind_inv
    obtain ⟨g2, rfl⟩ := ofO_run r9
    obtain ⟨d', i', z', hu', hi', hz', rfl⟩ := tyOf_spec g2
    dsimp only at r10
    generalize hx : a.eval x = val at ga
    split at r10
    · rename_i r s i0 n
      cases r10 with
      | req q1 q2 =>
        cases q2
        obtain ⟨q1, q3, q4⟩ := q1
        cases ga with
        | sl t1 t2 =>
          cases t2
          rcases t1 with ⟨e1, e2⟩ | ⟨b, oo, e1, e2, e3, e4⟩
          · omega
          · subst e2
            refine fin _ rfl (by rw [hx]; exact run_indexAt_slice hu hi' q3 q4) ?_ (fun hn => hn)
            have := RelVs.mp (Z := Z) (B := B) (w := w) (s := s) (i := i0 + ix.toNat) (j := 0) e1 .nil
            rw [← q1]
            simpa [Nat.add_mul, Nat.add_assoc] using this
    · cases r10 with
      | req q1 q2 =>
        obtain ⟨q1, q3, q4⟩ := q1
        obtain ⟨row, st6, R11, W11, R12, W12, r11, r12, -, -⟩ := q2.bind_inv
        obtain ⟨g3, rfl⟩ := ofO_run r11
        cases r12
        obtain ⟨b, oo, c, rfl, e2⟩ := row_at (by simp) ga g3
        exact fin _ rfl (by rw [hx]; exact run_indexAt_slice hu hi' q3 q4) (by rw [← q1]; exact e2) (fun _ => trivial)
    · cases r10 with
      | req q1 q2 =>
        obtain ⟨q1, q3, q4⟩ := q1
        obtain ⟨row, st6, R11, W11, R12, W12, r11, r12, -, -⟩ := q2.bind_inv
        obtain ⟨g3, rfl⟩ := ofO_run r11
        cases r12
        obtain ⟨b, oo, c, rfl, e2⟩ := row_at (by simp) ga g3
        exact fin _ rfl (by rw [hx]; exact run_indexAt_slice hu hi' q3 q4) (by rw [← q1]; exact e2) (fun _ => trivial)
    · cases r10
  · rename_i n e hke
    have := ofK_array hke; subst this
    obtain ⟨te, st5, R9, W9, R10, W10, r9, r10, -, -⟩ := r8.bind_inv
    obtain ⟨g2, rfl⟩ := ofO_run r9
    obtain ⟨d', i', z', hu', hi', hz', rfl⟩ := tyOf_spec g2
    dsimp only at r10
    generalize hx : a.eval x = val at ga
    split at r10
    · rename_i r s i0 j
      cases r10 with
      | req q1 q2 =>
        cases q2
        cases ga with
        | mp t1 t2 =>
          cases t2
          refine fin _ rfl (by rw [hx]; exact run_indexAt_array hu hi' q1.1 q1.2) ?_ (fun hn => hn)
          have := RelVs.mp (Z := Z) (B := B) (w := w) (s := s) (i := i0) (j := j + ix.toNat * i'.size) t1 .nil
          simpa [Nat.add_assoc] using this
    · cases r10 with
      | req q1 q2 =>
        cases q2
        obtain ⟨b, oo, rfl, e2⟩ := ptr_dropAny (n := ix.toNat * i'.size) (by simp) ga
        exact fin _ rfl (by rw [hx]; exact run_indexAt_array hu hi' q1.1 q1.2) e2 (fun _ => trivial)
    · cases r10 with
      | req q1 q2 =>
        cases q2
        obtain ⟨b, oo, rfl, e2⟩ := ptr_dropAny (n := ix.toNat * i'.size) (by simp) ga
        exact fin _ rfl (by rw [hx]; exact run_indexAt_array hu hi' q1.1 q1.2) e2 (fun _ => trivial)
    · cases r10
  · cases r8

theorem index_ok {o : Oper} {nm : Nat} {v : V} {R W : List Res} {t : TypeId} {x y : Operand} (ho : o.op = .index t x y)
    (hr : Run ((fetchP x).bind fun v => (fetchP y).bind fun i => (Prog.ofO i.asInt).bind (indexP P t v)) st v st' R W) : OpOk P o nm st v st' := by
  rintro Γ N a w ⟨Z, B, ρ, F, h⟩ hf K Q hk
  obtain ⟨va, st1, R1, W1, R2, W2, r1, r2, -, -⟩ := hr.bind_inv
  obtain ⟨vi, st2, R3, W3, R4, W4, r3, r4, -, -⟩ := r2.bind_inv
  obtain ⟨ix, st3, R5, W5, R6, W6, r5, r6, -, -⟩ := r4.bind_inv
  obtain ⟨gi, rfl⟩ := ofO_run r5
  obtain ⟨F1, h1⟩ := fetch_sound r1 (rfl : a.tmps = a.tmps) h
  obtain ⟨F2, h2⟩ := fetch_sound r3 (rfl : a.tmps = a.tmps) h1
  obtain ⟨Gi, gi'⟩ := h2.head
  obtain ⟨k, ek⟩ := asInt_val gi gi'
  obtain ⟨F3, h3⟩ := h2.drop
  obtain ⟨Ga, ga⟩ := h3.head
  unfold indexP at r6
  obtain ⟨ty, st4, R7, W7, R8, W8, r7, r8, -, -⟩ := r6.bind_inv
  obtain ⟨g1, rfl⟩ := ofO_run r7
  obtain ⟨d, i, z, hu, hi, hz, rfl⟩ := tyOf_spec g1
  cases r8 with
  | req hk1 r8 =>
    have := ofK_str hk1; subst this
    split at r8
    · rename_i b
      cases r8 with
      | req q1 q2 =>
        obtain ⟨c, st5, R9, W9, R10, W10, r9, r10, -, -⟩ := q2.bind_inv
        obtain ⟨g2, rfl⟩ := ofO_run r9
        cases r10
        have ea := rel_p ga
        obtain ⟨F4, h6⟩ := h3.plain (val' := .int .u8 c.toNat) rfl
        refine wp_value (w' := w) ?_ (hk _ _ h6.toNx.satP)
        have hb : b[ix.toNat]? = some c := by
          obtain ⟨hlt, e⟩ := Array.getElem?_eq_some_iff.1 g2
          have hlt' : ix.toNat < b.size := hlt
          rw [getElem?_pos b _ hlt']
          exact congrArg some e
        simp [execOp, ho, ek, ea, Instr.index, asIntOf, run_underlying hu, q1, hb]
    · cases r8

theorem field_ok {o : Oper} {nm : Nat} {v : V} {R W : List Res} {t : TypeId} {x : Operand} {f : Nat} (ho : o.op = .field t x f) (hr : Run ((fetchP x).bind (fieldP P t f)) st v st' R W) : OpOk P o nm st v st' := by
  rintro Γ N a w ⟨Z, B, ρ, F, h⟩ hf K Q hk
  obtain ⟨va, st1, R1, W1, R2, W2, r1, r2, -, -⟩ := hr.bind_inv
  obtain ⟨F1, h1⟩ := fetch_sound r1 (rfl : a.tmps = a.tmps) h
  unfold fieldP at r2
  split at r2
  · rename_i cs
    obtain ⟨ty, st2, R3, W3, R4, W4, r3, r4, -, -⟩ := r2.bind_inv
    obtain ⟨g1, rfl⟩ := ofO_run r3
    obtain ⟨q, st3, R5, W5, R6, W6, r5, r6, -, -⟩ := r4.bind_inv
    obtain ⟨g2, rfl⟩ := ofO_run r5
    obtain ⟨te, st4, R7, W7, R8, W8, r7, r8, -, -⟩ := r6.bind_inv
    obtain ⟨g3, rfl⟩ := ofO_run r7
    obtain ⟨d, i, z, hu, hi, hz, rfl⟩ := tyOf_spec g1
    obtain ⟨d', i', z', hu', hi', hz', rfl⟩ := tyOf_spec g3
    obtain ⟨Ga, Gh, eF, ga, gh, n1, n2⟩ := h1.headF
    generalize hx : a.eval x = val at ga h1
    cases ga with
    | @agg _ us FF _ _ _ t1 t0 t2 =>
      cases t2
      have hfield : ∃ fa fld, d = .struct fa ∧ fa[f]? = some fld ∧ fld.offset = q.1 ∧ fld.type = q.2 := by
        unfold TyK.field at g2
        split at g2
        · rename_i fs hk'
          obtain ⟨fa, rfl, rfl⟩ := ofK_struct hk'
          rw [List.getElem?_map, Option.map_eq_some_iff] at g2
          obtain ⟨fld, e1, rfl⟩ := g2
          simp only [Array.getElem?_toList] at e1
          exact ⟨fa, fld, rfl, e1, rfl, rfl⟩
        · cases g2
      obtain ⟨fa, fld, rfl, e1, e2, e3⟩ := hfield
      have hrun : ∀ val', (part q.2 us.toArray q.1).run P w = .ok val' w → (execOp a.eval o).run P w = .ok (.value val') w := by
        intro val' hp
        simp [execOp, ho, hx, Instr.field, run_underlying hu, e1, asAgg, e2, e3, hp]
      have hagg : (isAgg q.2).run P w = .ok d'.isRow w := by
        unfold isAgg
        rw [Sem.run_bind, run_underlying hu' w]
        cases d' <;> simp [Sem.run_pure]
      have segs : ∀ (n : Nat), ∃ G', RelVs Z B w ρ ((cs.drop q.1).take n) ((us.drop q.1).take n) G' ∧ (∀ x, G'.count x ≤ (FF ++ []).count x) := by
        intro n
        obtain ⟨G1, G2, rfl, k1⟩ := t1.dropTo q.1
        obtain ⟨G3, G4, rfl, k2⟩ := k1.takeTo n
        exact ⟨G3, k2, fun x => by simp only [List.count_append]; omega⟩
      dsimp only at r8
      split at r8
      · rename_i hag
        cases r8
        rw [ofK_agg] at hag
        have hval : (part q.2 us.toArray q.1).run P w = .ok (.agg ((us.drop q.1).take i'.size).toArray) w := by
          simp [part, hagg, hag, sizeOf, typeInfo, hi']
        obtain ⟨G', k1, k3⟩ := segs i'.size
        obtain ⟨F4, h6⟩ := h1.turnF (v' := .agg ((cs.drop q.1).take i'.size)) (val' := .agg ((us.drop q.1).take i'.size).toArray) eF gh
          (by simpa using RelVs.agg k1 (fun x hx => t0 x (List.mem_of_mem_drop (List.mem_of_mem_take hx))) (RelVs.nil (Z := Z) (B := B) (w := w) (ρ := ρ))) k3 (by
          have := inNs_iff.1 (show V.inNs N cs from n1)
          exact inNs_iff.2 fun x hx => this x (List.mem_of_mem_drop (List.mem_of_mem_take hx))) n2
        exact wp_value (hrun _ hval) (hk _ _ h6.toNx.satP)
      · rename_i hag
        obtain ⟨vv, st5, R9, W9, R10, W10, r9, r10, -, -⟩ := r8.bind_inv
        obtain ⟨g4, rfl⟩ := ofO_run r9
        cases r10
        rw [ofK_agg] at hag
        obtain ⟨G', k1, k3⟩ := segs 1
        have hcs : (cs.drop q.1).take 1 = [v] := by
          rw [List.take_one, List.head?_drop, g4]; rfl
        rw [hcs] at k1
        obtain ⟨val', hval', k1'⟩ : ∃ val', (us.drop q.1).take 1 = [val'] ∧ RelVs Z B w ρ [v] [val'] G' := by
          obtain ⟨v1, vs1, Gx, Gy, e5, e6, k4, k5⟩ := k1.cons_split
          cases k5
          exact ⟨v1, e5, e5 ▸ k1⟩
        have hus : us[q.1]? = some val' := by
          rw [List.take_one, List.head?_drop] at hval'
          cases hq : us[q.1]? with
          | none => rw [hq] at hval'; cases hval'
          | some u => rw [hq] at hval'; simpa using hval'
        have hval : (part q.2 us.toArray q.1).run P w = .ok val' w := by
          simp at hag
          simp [part, hagg, hag, hus]
        obtain ⟨F4, h6⟩ := h1.turnF (v' := v) (val' := val') eF gh k1' k3 (by
          have := inNs_iff.1 (show V.inNs N cs from n1)
          exact this v (List.mem_of_getElem? g4)) n2
        exact wp_value (hrun _ hval) (hk _ _ h6.toNx.satP)
  · cases r2

end
end Go.Proofs.Ytdoboiiilcgbnaa.L
