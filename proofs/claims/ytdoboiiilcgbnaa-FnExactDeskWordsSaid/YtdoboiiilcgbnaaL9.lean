/- WHAT IS PROVED: the abstract operators, addresses, cuts and lengths tell what the model's do. Conditions: none. -/
import Derived.Test.YtdoboiiilcgbnaaL8
namespace Go.Proofs.Ytdoboiiilcgbnaa.L
set_option linter.unusedVariables false
set_option linter.unusedSimpArgs false

section
variable {P : Program} {Γ : Ctx} {Z B : Zone} {ρ : Names} {F : Ix → List Nat} {N : Nat → Prop} {st st' : St} {ps : List V} {vals : List Value} {X : List Nat} {tm : Array Value} {w : World}

theorem ofK_ptr {d : TypeDesc} {e : TypeId} (h : TyK.of d = .ptr e) : ∃ e', d = .pointer e' := by cases d <;> simp_all [TyK.of]

theorem eq_gen {op : BinOp} {t : TypeId} {va vb : Value} {r : Bool} (hop : op = .eql ∨ op = .neq)
    (e1 : binOp .eql t va vb = (do pure (.bool (← Op.equal t va vb)))) (e2 : binOp .neq t va vb = (do pure (.bool (!(← Op.equal t va vb)))))
    (h : (Op.equalIn (9999 + 1) t va vb).run P w = .ok r w) : (binOp op t va vb).run P w = .ok (.bool (if op = .eql then r else !r)) w := by
  have h' : (Op.equal t va vb).run P w = .ok r w := h
  rcases hop with rfl | rfl
  · rw [e1, Sem.run_bind, h']; simp
  · rw [e2, Sem.run_bind, h']; simp

theorem eqIn_slice (d : Nat) {t e : TypeId} (hu : P.underlying t = some (.slice e)) (a : Addr) (n c m k : Nat) : (Op.equalIn (d + 1) t (.slice (some a) n c) (.slice none m k)).run P w = .ok false w := by
  rw [Op.equalIn, Sem.run_bind, run_underlying hu]; rfl

theorem eqIn_slice0 (d : Nat) {t e : TypeId} (hu : P.underlying t = some (.slice e)) (n c m k : Nat) : (Op.equalIn (d + 1) t (.slice none n c) (.slice none m k)).run P w = .ok true w := by
  rw [Op.equalIn, Sem.run_bind, run_underlying hu]; rfl

theorem eqIn_ptr (d : Nat) {t e : TypeId} (hu : P.underlying t = some (.pointer e)) (a : Addr) : (Op.equalIn (d + 1) t (.pointer (some a)) (.pointer none)).run P w = .ok false w := by
  rw [Op.equalIn, Sem.run_bind, run_underlying hu]; rfl

theorem eqIn_ptr0 (d : Nat) {t e : TypeId} (hu : P.underlying t = some (.pointer e)) : (Op.equalIn (d + 1) t (.pointer none) (.pointer none)).run P w = .ok true w := by
  rw [Op.equalIn, Sem.run_bind, run_underlying hu]; rfl

theorem eqIn_iface (d : Nat) {t : TypeId} {ms : Array (String × TypeId)} (hu : P.underlying t = some (.interface ms)) (t' : TypeId) (v : Value) : (Op.equalIn (d + 1) t (.iface t' v) .nilIface).run P w = .ok false w := by
  rw [Op.equalIn, Sem.run_bind, run_underlying hu]; rfl

theorem eqIn_bool (d : Nat) {t : TypeId} (hu : P.underlying t = some .bool) (a b : Bool) : (Op.equalIn (d + 1) t (.bool a) (.bool b)).run P w = .ok (a == b) w := by
  rw [Op.equalIn, Sem.run_bind, run_underlying hu]; rfl

theorem run_nilEq {t : TypeId} {v b : V} {r : Bool} {va vb : Value} {Ga Gb : List Nat} {R W : List Res} (hr : Run (nilEqP P t v b) st r st' R W)
    (ha : RelV Z B w ρ v va Ga) (hb : RelV Z B w ρ b vb Gb) (x y : Operand) (op : BinOp) (hop : op = .eql ∨ op = .neq) :
    st' = st ∧ (eqGuard op t x y va vb).run P w = .ok () w ∧ (binOp op t va vb).run P w = .ok (.bool (if op = .eql then r else !r)) w := by
  obtain ⟨ty, st1, R1, W1, R2, W2, r1, r2, -, -⟩ := hr.bind_inv
  obtain ⟨h1, rfl⟩ := ofO_run r1
  obtain ⟨d, i, z, hu, hi, hz, rfl⟩ := tyOf_spec h1
  dsimp only at r2
  split at r2
  · rename_i e hk
    have := ofK_slice hk; subst this
    cases r2 with
    | req g1 g2 =>
      cases g2
      have eb := rel_p hb; subst eb
      cases ha with
      | sl t1 t2 =>
        cases t2
        rcases t1 with ⟨e1, e2⟩ | ⟨b, o, e1, e2, e3, e4⟩
        · omega
        · subst e2
          refine ⟨rfl, ?_, ?_⟩
          · rcases hop with rfl | rfl <;> simp [eqGuard]
          · exact eq_gen hop rfl rfl (eqIn_slice 9999 hu _ _ _ _ _)
  · rename_i e hk
    have := ofK_slice hk; subst this
    cases r2 with
    | req g1 g2 =>
      cases g2
      have eb := rel_p hb; subst eb
      cases ha with
      | d t1 t2 =>
        cases t2
        cases t1 with
        | none => exact absurd rfl g1
        | row q1 q2 q3 q4 q5 q6 q7 q8 =>
          cases q8
          refine ⟨rfl, ?_, ?_⟩
          · rcases hop with rfl | rfl <;> simp [eqGuard]
          · exact eq_gen hop rfl rfl (eqIn_slice 9999 hu _ _ _ _ _)
  · rename_i e hk
    have := ofK_slice hk; subst this
    cases r2
    have eb := rel_p hb; subst eb
    have ea := rel_p ha; subst ea
    refine ⟨rfl, ?_, ?_⟩
    · rcases hop with rfl | rfl <;> simp [eqGuard]
    · exact eq_gen hop rfl rfl (eqIn_slice0 9999 hu _ _ _ _)
  · rename_i e hk
    obtain ⟨e', rfl⟩ := ofK_ptr hk
    cases r2
    have eb := rel_p hb; subst eb
    cases ha with
    | mp t1 t2 =>
      cases t2
      refine ⟨rfl, ?_, ?_⟩
      · rcases hop with rfl | rfl <;> simp [eqGuard]
      · exact eq_gen hop rfl rfl (eqIn_ptr 9999 hu _)
  · rename_i e hk
    obtain ⟨e', rfl⟩ := ofK_ptr hk
    cases r2
    have eb := rel_p hb; subst eb
    cases ha with
    | d t1 t2 =>
      cases t2
      cases t1 with
      | ptr q1 q2 q3 q4 q5 q8 =>
        cases q8
        refine ⟨rfl, ?_, ?_⟩
        · rcases hop with rfl | rfl <;> simp [eqGuard]
        · exact eq_gen hop rfl rfl (eqIn_ptr 9999 hu _)
  · rename_i e hk
    obtain ⟨e', rfl⟩ := ofK_ptr hk
    cases r2
    have eb := rel_p hb; subst eb
    have ea := rel_p ha; subst ea
    refine ⟨rfl, ?_, ?_⟩
    · rcases hop with rfl | rfl <;> simp [eqGuard]
    · exact eq_gen hop rfl rfl (eqIn_ptr0 9999 hu)
  · rename_i hk
    have : ∃ ms, d = .interface ms := by cases d <;> simp_all [TyK.of]
    obtain ⟨ms, rfl⟩ := this
    cases r2
    have eb := rel_p hb; subst eb
    have ea := rel_p ha; subst ea
    refine ⟨rfl, ?_, ?_⟩
    · rcases hop with rfl | rfl <;> simp [eqGuard]
    · exact eq_gen hop rfl rfl (eqIn_iface 9999 hu _ _)
  · cases r2

theorem run_binP {op : BinOp} {t : TypeId} {va vb : V} {v : V} {x y : Operand} {a b : Value} {Ga Gb : List Nat} {R W : List Res} (hr : Run (binP P op t va vb) st v st' R W)
    (ha : RelV Z B w ρ va a Ga) (hb : RelV Z B w ρ vb b Gb) :
    st' = st ∧ ∃ r, v = .d (.p r) ∧ r.oneCell' = true ∧ (eqGuard op t x y a b).run P w = .ok () w ∧ (binOp op t a b).run P w = .ok r w := by
  unfold binP at hr
  split at hr
  · have ea := rel_p ha; subst ea
    have eb := rel_p hb; subst eb
    split at hr
    · rename_i hs
      obtain ⟨r, st1, R1, W1, R2, W2, r1, r2, -, -⟩ := hr.bind_inv
      obtain ⟨h1, rfl⟩ := ofO_run r1
      cases r2
      refine ⟨rfl, r, rfl, ?_, eqGuard_plain _ _ _ _ _ _ (by simp) (by simp), run_shiftBin op t _ _ _ _ r hs h1⟩
      unfold shiftBin at h1
      split at h1
      · cases h1
      · cases op <;> simp [BinOp.isShift] at hs <;> simp at h1 <;> subst h1 <;> rfl
    · rename_i hs
      split at hr
      · rename_i e; subst e
        obtain ⟨r, st1, R1, W1, R2, W2, r1, r2, -, -⟩ := hr.bind_inv
        obtain ⟨h1, rfl⟩ := ofO_run r1
        cases r2
        refine ⟨rfl, r, rfl, ?_, eqGuard_plain _ _ _ _ _ _ (by simp) (by simp), run_intBin op t _ _ _ r (by simpa using hs) h1⟩
        cases op <;> simp [intBin] at h1 <;> first | (subst h1; rfl) | (obtain ⟨_, rfl⟩ := h1; rfl)
      · cases hr
  · have ea := rel_p ha; subst ea
    have eb := rel_p hb; subst eb
    obtain ⟨r, st1, R1, W1, R2, W2, r1, r2, -, -⟩ := hr.bind_inv
    obtain ⟨h1, rfl⟩ := ofO_run r1
    cases r2
    refine ⟨rfl, r, rfl, ?_, eqGuard_plain _ _ _ _ _ _ (by simp) (by simp), run_strBin op t _ _ r h1⟩
    cases op <;> simp [strBin] at h1 <;> first | (subst h1; rfl) | (obtain ⟨_, rfl⟩ := h1; rfl)
  · have ea := rel_p ha; subst ea
    have eb := rel_p hb; subst eb
    split at hr
    · obtain ⟨ty, st1, R1, W1, R2, W2, r1, r2, -, -⟩ := hr.bind_inv
      obtain ⟨h1, rfl⟩ := ofO_run r1
      cases r2 with
      | req g1 g2 =>
        cases g2
        obtain ⟨d, i, z, hu, hi, hz, rfl⟩ := tyOf_spec h1
        have := ofK_bool g1; subst this
        exact ⟨rfl, _, rfl, rfl, eqGuard_plain _ _ _ _ _ _ (by simp) (by simp), by simpa using eq_gen (P := P) (w := w) (op := .eql) (.inl rfl) rfl rfl (eqIn_bool 9999 hu _ _)⟩
    · obtain ⟨ty, st1, R1, W1, R2, W2, r1, r2, -, -⟩ := hr.bind_inv
      obtain ⟨h1, rfl⟩ := ofO_run r1
      cases r2 with
      | req g1 g2 =>
        cases g2
        obtain ⟨d, i, z, hu, hi, hz, rfl⟩ := tyOf_spec h1
        have := ofK_bool g1; subst this
        exact ⟨rfl, _, rfl, rfl, eqGuard_plain _ _ _ _ _ _ (by simp) (by simp), by simpa using eq_gen (P := P) (w := w) (op := .neq) (.inr rfl) rfl rfl (eqIn_bool 9999 hu _ _)⟩
    · cases hr
  · obtain ⟨ks, st1, R1, W1, R2, W2, r1, r2, -, -⟩ := hr.bind_inv
    obtain ⟨h1, rfl⟩ := ofO_run r1
    obtain ⟨c, st2, R3, W3, R4, W4, r3, r4, -, -⟩ := r2.bind_inv
    obtain ⟨h2, rfl⟩ := ofO_run r3
    cases ha with
    | agg a1 a2 a3 =>
      cases a3
      cases hb with
      | agg b1 b2 b3 =>
        cases b3
        obtain ⟨e1, e2⟩ := run_eqAgg h1 h2 a1 b1
        split at r4
        · cases r4
          exact ⟨rfl, _, rfl, rfl, run_eqGuard_agg w _ t x y _ _ e1, by rw [run_eql_struct, e2]; rfl⟩
        · cases r4
          exact ⟨rfl, _, rfl, rfl, run_eqGuard_agg w _ t x y _ _ e1, by rw [run_neq_struct, e2]; rfl⟩
        · cases r4
  · cases hr

theorem binOp_ok {o : Oper} {nm : Nat} {v : V} {R W : List Res} {op : BinOp} {t t2 : TypeId} {x y : Operand} (ho : o.op = .binOp op t x y t2) (hr : Run (opP P nm (.binOp op t x y t2)) st v st' R W) : OpOk P o nm st v st' := by
  rintro Γ N a w ⟨Z, B, ρ, F, h⟩ hf K Q hk
  simp only [opP] at hr
  obtain ⟨va, st1, R1, W1, R2, W2, r1, r2, -, -⟩ := hr.bind_inv
  obtain ⟨vb, st2, R3, W3, R4, W4, r3, r4, -, -⟩ := r2.bind_inv
  obtain ⟨F1, h1⟩ := fetch_sound r1 (rfl : a.tmps = a.tmps) h
  obtain ⟨F2, h2⟩ := fetch_sound r3 (rfl : a.tmps = a.tmps) h1
  obtain ⟨Gb, gb⟩ := h2.head
  obtain ⟨F3, h3⟩ := h2.drop
  obtain ⟨Ga, ga⟩ := h3.head
  have fin : ∀ r : Value, st' = st2 → v = .d (.p r) → r.oneCell' = true → (eqGuard op t x y (a.eval x) (a.eval y)).run P w = .ok () w → (binOp op t (a.eval x) (a.eval y)).run P w = .ok r w → o.wp P a w K Q := by
    intro r e1 e2 h0 h4 h5
    subst e1; subst e2
    obtain ⟨F4, h6⟩ := h3.plain h0
    refine wp_value (w' := w) (val := r) ?_ (hk _ _ h6.toNx.satP)
    simp [execOp, ho, h4, h5]
  split at r4
  · split at r4
    · obtain ⟨c, st3, R5, W5, R6, W6, r5, r6, -, -⟩ := r4.bind_inv
      cases r6
      obtain ⟨rfl, e1, e2⟩ := run_nilEq r5 ga gb x y .eql (.inl rfl)
      exact fin _ rfl rfl rfl e1 (by simpa using e2)
    · obtain ⟨c, st3, R5, W5, R6, W6, r5, r6, -, -⟩ := r4.bind_inv
      cases r6
      obtain ⟨rfl, e1, e2⟩ := run_nilEq r5 ga gb x y .neq (.inr rfl)
      exact fin _ rfl rfl rfl e1 (by simpa using e2)
    · cases r4
  · obtain ⟨e1, r, rfl, e2, e3, e4⟩ := run_binP (x := x) (y := y) r4 ga gb
    exact fin r e1 rfl e2 e3 e4

theorem unOp_ok {o : Oper} {nm : Nat} {v : V} {R W : List Res} {op : UnOp} {t : TypeId} {x : Operand} (ho : o.op = .unOp op t x) (hr : Run ((fetchP x).bind (unP op)) st v st' R W) : OpOk P o nm st v st' := by
  rintro Γ N a w ⟨Z, B, ρ, F, h⟩ hf K Q hk
  obtain ⟨va, st1, R1, W1, R2, W2, r1, r2, -, -⟩ := hr.bind_inv
  obtain ⟨F1, h1⟩ := fetch_sound r1 (rfl : a.tmps = a.tmps) h
  obtain ⟨Ga, ga⟩ := h1.head
  have fin : ∀ r : Value, st' = st1 → v = .d (.p r) → r.oneCell' = true → (Op.unary op (a.eval x)).run P w = .ok r w → o.wp P a w K Q := by
    intro r e1 e2 h0 h5
    subst e1; subst e2
    obtain ⟨F4, h6⟩ := h1.plain h0
    refine wp_value (w' := w) (val := r) ?_ (hk _ _ h6.toNx.satP)
    simp [execOp, ho, h5]
  unfold unP at r2
  split at r2
  · have ea := rel_p ga
    split at r2
    · cases r2; exact fin _ rfl rfl rfl (by rw [ea]; simp [Op.unary, Op.intArith])
    · cases r2; exact fin _ rfl rfl rfl (by rw [ea]; simp [Op.unary, Op.intBits])
    · cases r2
  · have ea := rel_p ga
    split at r2
    · cases r2; exact fin _ rfl rfl rfl (by rw [ea]; simp [Op.unary])
    · cases r2
  · cases r2

theorem nilCheck_ok {o : Oper} {nm : Nat} {v : V} {R W : List Res} {x : Operand} (ho : o.op = .nilCheck x) (hr : Run ((fetchN nm x).bind fun v => v.some?.bind fun _ => .ret v) st v st' R W) : OpOk P o nm st v st' := by
  rintro Γ N a w ⟨Z, B, ρ, F, h⟩ hf K Q hk
  obtain ⟨va, st1, R1, W1, R2, W2, r1, r2, -, -⟩ := hr.bind_inv
  obtain ⟨u, st2, R3, W3, R4, W4, r3, r4, -, -⟩ := r2.bind_inv
  cases r4
  obtain ⟨ρ', F1, h1⟩ := fetchN_sound r1 (hf nm (by omega) (by omega)) rfl h
  obtain ⟨Ga, ga⟩ := h1.head
  have fin : st' = st1 → (execOp a.eval o).run P w = .ok (.value (a.eval x)) w → o.wp P a w K Q := by
    rintro rfl h5
    exact wp_value h5 (hk _ _ (h1.weakN Nx_one).satP)
  unfold V.some? at r3
  split at r3
  · cases r3
    refine fin rfl ?_
    generalize hx : a.eval x = val at ga
    cases ga with
    | mp t1 t2 => cases t2; simp [execOp, ho, hx]
  · cases r3
    refine fin rfl ?_
    generalize hx : a.eval x = val at ga
    cases ga with
    | d t1 t2 =>
      cases t2
      cases t1 with
      | ptr q1 q2 q3 q4 q5 q8 => cases q8; simp [execOp, ho, hx]
  · cases r3
    refine fin rfl ?_
    generalize hx : a.eval x = val at ga
    cases ga with
    | clo t1 t2 => cases t2; simp [execOp, ho, hx]
  · cases r3

/-! ### Addresses -/
theorem rangeAt_drop {b o n : Nat} {us : List Value} (h : w.rangeAt b o us) (hn : n ≤ us.length) : w.rangeAt b (o + n) (us.drop n) := by
  rw [← List.take_append_drop n us, rangeAt_append] at h
  simpa [Nat.min_eq_left hn] using h.2

theorem RelDs.dropTo {ds : List D} {vs : List Value} {G : List Nat} (h : RelDs Z B w ds vs G) (n : Nat) : ∃ G1 G2, G = G1 ++ G2 ∧ RelDs Z B w (ds.drop n) (vs.drop n) G2 := by
  have hlen := h.length
  rcases Nat.lt_or_ge ds.length n with hlt | hge
  · rw [List.drop_of_length_le (by omega), List.drop_of_length_le (by omega)]
    exact ⟨G, [], by simp, .nil⟩
  · rw [← List.take_append_drop n ds] at h
    obtain ⟨va, vb, Fa, Fb, rfl, rfl, q1, q2⟩ := h.split
    refine ⟨Fa, Fb, rfl, ?_⟩
    have hl := q1.length
    have : va.length = n := by simp at hl; omega
    have e : (va ++ vb).drop n = vb := by rw [← this]; simp
    rw [e]
    exact q2

/-- A pointer to cells that are not alone held, moved on. -/
theorem ptr_drop {m : Md} {cs : List D} {val : Value} {G : List Nat} {n : Nat} (hm : m ≠ .own) (h : RelV Z B w ρ (.d (.ptr m cs)) val G) :
    ∃ b o, val = .pointer (some ⟨b, o, none⟩) ∧ (n ≤ cs.length → RelV Z B w ρ (.d (.ptr m (cs.drop n))) (.pointer (some ⟨b, o + n, none⟩)) []) := by
  cases h with
  | d t1 t2 =>
    cases t2
    cases t1 with
    | @ptr _ b o _ us FF _ _ _ q1 q2 q3 q4 q5 q8 =>
      cases q8
      refine ⟨b, o, rfl, fun hn => ?_⟩
      have := q5 hm
      subst this
      obtain ⟨G1, G2, e, q6⟩ := q1.dropTo n
      obtain ⟨rfl, rfl⟩ : G1 = [] ∧ G2 = [] := by simpa using e.symm
      have := RelVs.d (RelDs.ptr (m := m) (G := []) q6 (rangeAt_drop q2 (by rw [← q1.length]; exact hn)) q3 (fun e => absurd e hm) (fun _ => rfl) .nil) (RelVs.nil (Z := Z) (B := B) (w := w) (ρ := ρ))
      have hf : m.foot b = [] := by cases m <;> first | rfl | exact absurd rfl hm
      rw [hf] at this
      exact this

theorem fieldAt_run {t : TypeId} {ty te : Ty} {f : Nat} {q : Nat × TypeId} {b o : Nat} (h1 : tyOf P t = some ty) (h2 : ty.k.field f = some q) (h3 : tyOf P q.2 = some te) (h4 : 0 < te.size) :
    (Instr.fieldAt t (.pointer (some ⟨b, o, none⟩)) f).run P w = .ok (.pointer (some ⟨b, o + q.1, none⟩)) w := by
  obtain ⟨d, i, z, hu, hi, hz, rfl⟩ := tyOf_spec h1
  obtain ⟨d', i', z', hu', hi', hz', rfl⟩ := tyOf_spec h3
  unfold TyK.field at h2
  split at h2
  · rename_i fs hk
    obtain ⟨fa, rfl, rfl⟩ := ofK_struct hk
    rw [List.getElem?_map, Option.map_eq_some_iff] at h2
    obtain ⟨fld, e1, rfl⟩ := h2
    simp at h4
    simp only [Array.getElem?_toList] at e1
    have : ¬ (i'.size = 0) := by omega
    simp [Instr.fieldAt, run_underlying hu, e1, Instr.sureAddr, fieldPlace, sizeOf, typeInfo, hi', this, Addr.add_mid]
  · cases h2

theorem fieldAddr_ok {o : Oper} {nm : Nat} {v : V} {R W : List Res} {t : TypeId} {x : Operand} {f : Nat} (ho : o.op = .fieldAddr t x f) (hr : Run ((fetchN nm x).bind (fieldAddrP P t f)) st v st' R W) : OpOk P o nm st v st' := by
  rintro Γ N a w ⟨Z, B, ρ, F, h⟩ hf K Q hk
  obtain ⟨va, st1, R1, W1, R2, W2, r1, r2, -, -⟩ := hr.bind_inv
  obtain ⟨ρ', F1, h1⟩ := fetchN_sound r1 (hf nm (by omega) (by omega)) rfl h
  unfold fieldAddrP at r2
  obtain ⟨ty, st2, R3, W3, R4, W4, r3, r4, -, -⟩ := r2.bind_inv
  obtain ⟨g1, rfl⟩ := ofO_run r3
  obtain ⟨q, st3, R5, W5, R6, W6, r5, r6, -, -⟩ := r4.bind_inv
  obtain ⟨g2, rfl⟩ := ofO_run r5
  obtain ⟨te, st4, R7, W7, R8, W8, r7, r8, -, -⟩ := r6.bind_inv
  obtain ⟨g3, rfl⟩ := ofO_run r7
  cases r8 with
  | req g4 r9 =>
    obtain ⟨Ga, ga⟩ := h1.head
    have fin : ∀ b oo : Nat, a.eval x = .pointer (some ⟨b, oo, none⟩) → st' = st4 → (∀ G, RelV Z B w ρ' va (a.eval x) G → RelV Z B w ρ' v (.pointer (some ⟨b, oo + q.1, none⟩)) []) → (va.inN (fun r => N r ∨ r = nm) → v.inN (fun r => N r ∨ r = nm)) → o.wp P a w K Q := by
      intro b oo e1 e2 e3 e4
      subst e2
      obtain ⟨F4, h6⟩ := h1.turn (v' := v) (val' := .pointer (some ⟨b, oo + q.1, none⟩)) (fun G g => ⟨[], e3 G g, by simp, by simp⟩) e4
      refine wp_value (w' := w) ?_ (hk _ _ (h6.weakN Nx_one).satP)
      simp [execOp, ho, e1, fieldAt_run g1 g2 g3 g4]
    split at r9
    · cases r9
      generalize hx : a.eval x = val at ga
      cases ga with
      | mp t1 t2 =>
        cases t2
        rename_i r s i j b oo
        refine fin b (oo + i * s + j) hx rfl (fun G g => ?_) (fun hn => hn)
        have := RelVs.mp (Z := Z) (B := B) (w := w) (s := s) (i := i) (j := j + q.1) t1 .nil
        simpa [Nat.add_assoc] using this
    · cases r9
      obtain ⟨b, oo, e1, e2⟩ := ptr_drop (n := q.1) (by simp) ga
      have hlen : True := trivial
      rename_i cs
      by_cases hle : q.1 ≤ cs.length
      · exact fin b oo e1 rfl (fun G g => e2 hle) (fun _ => trivial)
      · -- no cell is left: the list is empty
        refine fin b oo e1 rfl (fun G g => ?_) (fun _ => trivial)
        rw [e1] at g
        cases g with
        | d t1 t2 =>
          cases t2
          cases t1 with
          | ptr q1 q2 q3 q4 q5 q8 =>
            rw [List.drop_of_length_le (by omega)]
            have := RelVs.d (RelDs.ptr (Z := Z) (B := B) (w := w) (m := .frz) (b := b) (o := oo + q.1) (cs := []) (us := []) (F := []) .nil (fun j v hv => by simp at hv) q3 (by simp) (by simp) .nil) (RelVs.nil (ρ := ρ'))
            simpa [Md.foot] using this
    · cases r9
      obtain ⟨b, oo, e1, e2⟩ := ptr_drop (n := q.1) (by simp) ga
      rename_i cs
      by_cases hle : q.1 ≤ cs.length
      · exact fin b oo e1 rfl (fun G g => e2 hle) (fun _ => trivial)
      · refine fin b oo e1 rfl (fun G g => ?_) (fun _ => trivial)
        rw [e1] at g
        cases g with
        | d t1 t2 =>
          cases t2
          cases t1 with
          | ptr q1 q2 q3 q4 q5 q8 =>
            rw [List.drop_of_length_le (by omega)]
            have := RelVs.d (RelDs.ptr (Z := Z) (B := B) (w := w) (m := .bor) (b := b) (o := oo + q.1) (cs := []) (us := []) (F := []) .nil (fun j v hv => by simp at hv) q3 (by simp) (by simp) .nil) (RelVs.nil (ρ := ρ'))
            simpa [Md.foot] using this
    · cases r9

end
end Go.Proofs.Ytdoboiiilcgbnaa.L
