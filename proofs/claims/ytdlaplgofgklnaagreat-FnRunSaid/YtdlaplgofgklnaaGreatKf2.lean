/- WHAT IS PROVED: an abstract walker over the model, what some functions of the program answer, and laws of these answers. Conditions: none. -/
import Derived.Test.YtdlaplgofgklnaaGreatKf1
import Derived.Deep.Upon
import Derived.Lib.ConvBytes
import Derived.Laws.BytesArg
import Derived.Laws.IdiomCopy
namespace Go.Proofs.YtdlaplgofgklnaaGreat.L
set_option linter.unusedVariables false
set_option linter.unusedSimpArgs false
section
variable {P : Program} {Γ : Ctx} {Z B : Zone} {ρ : Names} {F : Ix → List Nat} {N : Nat → Prop} {st st' : St} {ps : List V} {vals : List Value} {X : List Nat} {tm : Array Value} {w : World}
theorem ofK_ptr {d : TypeDesc} {e : TypeId} (h : TyK.of d = .ptr e) : ∃ e', d = .pointer e' := by cases d <;> simp_all [TyK.of]
theorem eq_gen {op : BinOp} {t : TypeId} {va vb : Value} {r : Bool} (hop : op = .eql ∨ op = .neq)
    (e1 : binOp .eql t va vb = (do pure (.bool (← Op.equal t va vb)))) (e2 : binOp .neq t va vb = (do pure (.bool (!(← Op.equal t va vb)))))
    (h : (Op.equalIn (9999 + 1) t va vb).run P w = .ok r w) : (binOp op t va vb).run P w = .ok (.bool (if op = .eql then r else !r)) w := by
  have h' : (Op.equal t va vb).run P w = .ok r w := h
  rcases hop with rfl | rfl
  · rw [e1, Sem.run_bind, h']; simp
  · rw [e2, Sem.run_bind, h']; simp
theorem eqIn_slice (d : Nat) {t e : TypeId} (hu : P.underlying t = some (.slice e)) (a : Addr) (n c m k : Nat) : (Op.equalIn (d + 1) t (.slice (some a) n c) (.slice none m k)).run P w = .ok false w := by
  rw [Op.equalIn, Sem.run_bind, run_underlying hu]; rfl
theorem eqIn_slice0 (d : Nat) {t e : TypeId} (hu : P.underlying t = some (.slice e)) (n c m k : Nat) : (Op.equalIn (d + 1) t (.slice none n c) (.slice none m k)).run P w = .ok true w := by
  rw [Op.equalIn, Sem.run_bind, run_underlying hu]; rfl
theorem eqIn_ptr (d : Nat) {t e : TypeId} (hu : P.underlying t = some (.pointer e)) (a : Addr) : (Op.equalIn (d + 1) t (.pointer (some a)) (.pointer none)).run P w = .ok false w := by
  rw [Op.equalIn, Sem.run_bind, run_underlying hu]; rfl
theorem eqIn_ptr0 (d : Nat) {t e : TypeId} (hu : P.underlying t = some (.pointer e)) : (Op.equalIn (d + 1) t (.pointer none) (.pointer none)).run P w = .ok true w := by
  rw [Op.equalIn, Sem.run_bind, run_underlying hu]; rfl
theorem eqIn_iface (d : Nat) {t : TypeId} {ms : Array (String × TypeId)} (hu : P.underlying t = some (.interface ms)) (t' : TypeId) (v : Value) : (Op.equalIn (d + 1) t (.iface t' v) .nilIface).run P w = .ok false w := by
  rw [Op.equalIn, Sem.run_bind, run_underlying hu]; rfl
theorem eqIn_bool (d : Nat) {t : TypeId} (hu : P.underlying t = some .bool) (a b : Bool) : (Op.equalIn (d + 1) t (.bool a) (.bool b)).run P w = .ok (a == b) w := by
  rw [Op.equalIn, Sem.run_bind, run_underlying hu]; rfl
theorem run_nilEq {t : TypeId} {v b : V} {r : Bool} {va vb : Value} {Ga Gb : List Nat} {R W : List Res} (hr : Run (nilEqP P t v b) st r st' R W)
    (ha : RelV Z B w ρ v va Ga) (hb : RelV Z B w ρ b vb Gb) (x y : Operand) (op : BinOp) (hop : op = .eql ∨ op = .neq) :
    st' = st ∧ (eqGuard op t x y va vb).run P w = .ok () w ∧ (binOp op t va vb).run P w = .ok (.bool (if op = .eql then r else !r)) w := by
  obtain ⟨ty, st1, R1, W1, R2, W2, r1, r2, -, -⟩ := hr.bind_inv
  obtain ⟨h1, rfl⟩ := ofO_run r1
  obtain ⟨d, i, z, hu, hi, hz, rfl⟩ := tyOf_spec h1
  dsimp only at r2
  split at r2
  · rename_i e hk
    have := ofK_slice hk; subst this
    cases r2 with
    | req g1 g2 =>
      cases g2
      have eb := rel_p hb; subst eb
      cases ha with
      | sl t1 t2 =>
        cases t2
        rcases t1 with ⟨e1, e2⟩ | ⟨b, o, e1, e2, e3, e4⟩
        · omega
        · subst e2
          refine ⟨rfl, ?_, ?_⟩
          · rcases hop with rfl | rfl <;> simp [eqGuard]
          · exact eq_gen hop rfl rfl (eqIn_slice 9999 hu _ _ _ _ _)
  · rename_i e hk
    have := ofK_slice hk; subst this
    cases r2 with
    | req g1 g2 =>
      cases g2
      have eb := rel_p hb; subst eb
      cases ha with
      | d t1 t2 =>
        cases t2
        cases t1 with
        | none => exact absurd rfl g1
        | row q1 q2 q3 q4 q5 q6 q7 q8 =>
          cases q8
          refine ⟨rfl, ?_, ?_⟩
          · rcases hop with rfl | rfl <;> simp [eqGuard]
          · exact eq_gen hop rfl rfl (eqIn_slice 9999 hu _ _ _ _ _)
  · rename_i e hk
    have := ofK_slice hk; subst this
    cases r2
    have eb := rel_p hb; subst eb
    have ea := rel_p ha; subst ea
    refine ⟨rfl, ?_, ?_⟩
    · rcases hop with rfl | rfl <;> simp [eqGuard]
    · exact eq_gen hop rfl rfl (eqIn_slice0 9999 hu _ _ _ _)
  · rename_i e hk
    have := ofK_slice hk; subst this
    cases r2
    have eb := rel_p hb; subst eb
    have ea := rel_p ha; subst ea
    refine ⟨rfl, ?_, ?_⟩
    · rcases hop with rfl | rfl <;> simp [eqGuard]
    · exact eq_gen hop rfl rfl (eqIn_slice 9999 hu _ _ _ _ _)
  · rename_i e hk
    obtain ⟨e', rfl⟩ := ofK_ptr hk
    cases r2
    have eb := rel_p hb; subst eb
    cases ha with
    | mp t1 t2 =>
      cases t2
      refine ⟨rfl, ?_, ?_⟩
      · rcases hop with rfl | rfl <;> simp [eqGuard]
      · exact eq_gen hop rfl rfl (eqIn_ptr 9999 hu _)
  · rename_i e hk
    obtain ⟨e', rfl⟩ := ofK_ptr hk
    cases r2
    have eb := rel_p hb; subst eb
    cases ha with
    | d t1 t2 =>
      cases t2
      cases t1 with
      | ptr q1 q2 q3 q4 q5 q8 =>
        cases q8
        refine ⟨rfl, ?_, ?_⟩
        · rcases hop with rfl | rfl <;> simp [eqGuard]
        · exact eq_gen hop rfl rfl (eqIn_ptr 9999 hu _)
  · rename_i e hk
    obtain ⟨e', rfl⟩ := ofK_ptr hk
    cases r2
    have eb := rel_p hb; subst eb
    have ea := rel_p ha; subst ea
    refine ⟨rfl, ?_, ?_⟩
    · rcases hop with rfl | rfl <;> simp [eqGuard]
    · exact eq_gen hop rfl rfl (eqIn_ptr0 9999 hu)
  · rename_i hk
    have : ∃ ms, d = .interface ms := by cases d <;> simp_all [TyK.of]
    obtain ⟨ms, rfl⟩ := this
    cases r2
    have eb := rel_p hb; subst eb
    have ea := rel_p ha; subst ea
    refine ⟨rfl, ?_, ?_⟩
    · rcases hop with rfl | rfl <;> simp [eqGuard]
    · exact eq_gen hop rfl rfl (eqIn_iface 9999 hu _ _)
  · cases r2
theorem run_binP {op : BinOp} {t : TypeId} {va vb : V} {v : V} {x y : Operand} {a b : Value} {Ga Gb : List Nat} {R W : List Res} (hr : Run (binP P op t va vb) st v st' R W)
    (ha : RelV Z B w ρ va a Ga) (hb : RelV Z B w ρ vb b Gb) :
    st' = st ∧ ∃ r, v = .d (.p r) ∧ r.oneCell' = true ∧ (eqGuard op t x y a b).run P w = .ok () w ∧ (binOp op t a b).run P w = .ok r w := by
  unfold binP at hr
  split at hr
  · have ea := rel_p ha; subst ea
    have eb := rel_p hb; subst eb
    split at hr
    · rename_i hs
      obtain ⟨r, st1, R1, W1, R2, W2, r1, r2, -, -⟩ := hr.bind_inv
      obtain ⟨h1, rfl⟩ := ofO_run r1
      cases r2
      refine ⟨rfl, r, rfl, ?_, eqGuard_plain _ _ _ _ _ _ (by simp) (by simp), run_shiftBin op t _ _ _ _ r hs h1⟩
      unfold shiftBin at h1
      split at h1
      · cases h1
      · cases op <;> simp [BinOp.isShift] at hs <;> simp at h1 <;> subst h1 <;> rfl
    · rename_i hs
      split at hr
      · rename_i e; subst e
        obtain ⟨r, st1, R1, W1, R2, W2, r1, r2, -, -⟩ := hr.bind_inv
        obtain ⟨h1, rfl⟩ := ofO_run r1
        cases r2
        refine ⟨rfl, r, rfl, ?_, eqGuard_plain _ _ _ _ _ _ (by simp) (by simp), run_intBin op t _ _ _ r (by simpa using hs) h1⟩
        cases op <;> simp [intBin] at h1 <;> first | (subst h1; rfl) | (obtain ⟨_, rfl⟩ := h1; rfl)
      · cases hr
  · have ea := rel_p ha; subst ea
    have eb := rel_p hb; subst eb
    obtain ⟨r, st1, R1, W1, R2, W2, r1, r2, -, -⟩ := hr.bind_inv
    obtain ⟨h1, rfl⟩ := ofO_run r1
    cases r2
    refine ⟨rfl, r, rfl, ?_, eqGuard_plain _ _ _ _ _ _ (by simp) (by simp), run_strBin op t _ _ r h1⟩
    cases op <;> simp [strBin] at h1 <;> first | (subst h1; rfl) | (obtain ⟨_, rfl⟩ := h1; rfl)
  · have ea := rel_p ha; subst ea
    have eb := rel_p hb; subst eb
    split at hr
    · obtain ⟨ty, st1, R1, W1, R2, W2, r1, r2, -, -⟩ := hr.bind_inv
      obtain ⟨h1, rfl⟩ := ofO_run r1
      cases r2 with
      | req g1 g2 =>
        cases g2
        obtain ⟨d, i, z, hu, hi, hz, rfl⟩ := tyOf_spec h1
        have := ofK_bool g1; subst this
        exact ⟨rfl, _, rfl, rfl, eqGuard_plain _ _ _ _ _ _ (by simp) (by simp), by simpa using eq_gen (P := P) (w := w) (op := .eql) (.inl rfl) rfl rfl (eqIn_bool 9999 hu _ _)⟩
    · obtain ⟨ty, st1, R1, W1, R2, W2, r1, r2, -, -⟩ := hr.bind_inv
      obtain ⟨h1, rfl⟩ := ofO_run r1
      cases r2 with
      | req g1 g2 =>
        cases g2
        obtain ⟨d, i, z, hu, hi, hz, rfl⟩ := tyOf_spec h1
        have := ofK_bool g1; subst this
        exact ⟨rfl, _, rfl, rfl, eqGuard_plain _ _ _ _ _ _ (by simp) (by simp), by simpa using eq_gen (P := P) (w := w) (op := .neq) (.inr rfl) rfl rfl (eqIn_bool 9999 hu _ _)⟩
    · cases hr
  · obtain ⟨ks, st1, R1, W1, R2, W2, r1, r2, -, -⟩ := hr.bind_inv
    obtain ⟨h1, rfl⟩ := ofO_run r1
    obtain ⟨c, st2, R3, W3, R4, W4, r3, r4, -, -⟩ := r2.bind_inv
    obtain ⟨h2, rfl⟩ := ofO_run r3
    cases ha with
    | agg a1 a2 a3 =>
      cases a3
      cases hb with
      | agg b1 b2 b3 =>
        cases b3
        obtain ⟨e1, e2⟩ := run_eqAgg h1 h2 a1 b1
        split at r4
        · cases r4
          exact ⟨rfl, _, rfl, rfl, run_eqGuard_agg w _ t x y _ _ e1, by rw [run_eql_struct, e2]; rfl⟩
        · cases r4
          exact ⟨rfl, _, rfl, rfl, run_eqGuard_agg w _ t x y _ _ e1, by rw [run_neq_struct, e2]; rfl⟩
        · cases r4
  · cases hr
theorem binOp_ok {o : Oper} {nm : Nat} {v : V} {R W : List Res} {op : BinOp} {t t2 : TypeId} {x y : Operand} (ho : o.op = .binOp op t x y t2) (hr : Run (opP P nm (.binOp op t x y t2)) st v st' R W) : OpOk P o nm st v st' := by
  rintro Γ N a w ⟨Z, B, ρ, F, h⟩ hf K Q hk
  simp only [opP] at hr
  obtain ⟨va, st1, R1, W1, R2, W2, r1, r2, -, -⟩ := hr.bind_inv
  obtain ⟨vb, st2, R3, W3, R4, W4, r3, r4, -, -⟩ := r2.bind_inv
  obtain ⟨F1, h1⟩ := fetch_sound r1 (rfl : a.tmps = a.tmps) h
  obtain ⟨F2, h2⟩ := fetch_sound r3 (rfl : a.tmps = a.tmps) h1
  obtain ⟨Gb, gb⟩ := h2.head
  obtain ⟨F3, h3⟩ := h2.drop
  obtain ⟨Ga, ga⟩ := h3.head
  have fin : ∀ r : Value, st' = st2 → v = .d (.p r) → r.oneCell' = true → (eqGuard op t x y (a.eval x) (a.eval y)).run P w = .ok () w → (binOp op t (a.eval x) (a.eval y)).run P w = .ok r w → o.wp P a w K Q := by
    intro r e1 e2 h0 h4 h5
    subst e1; subst e2
    obtain ⟨F4, h6⟩ := h3.plain h0
    refine wp_value (w' := w) (val := r) ?_ (hk _ _ h6.toNx.satP)
    simp [execOp, ho, h4, h5]
  split at r4
  · split at r4
    · obtain ⟨c, st3, R5, W5, R6, W6, r5, r6, -, -⟩ := r4.bind_inv
      cases r6
      obtain ⟨rfl, e1, e2⟩ := run_nilEq r5 ga gb x y .eql (.inl rfl)
      exact fin _ rfl rfl rfl e1 (by simpa using e2)
    · obtain ⟨c, st3, R5, W5, R6, W6, r5, r6, -, -⟩ := r4.bind_inv
      cases r6
      obtain ⟨rfl, e1, e2⟩ := run_nilEq r5 ga gb x y .neq (.inr rfl)
      exact fin _ rfl rfl rfl e1 (by simpa using e2)
    · cases r4
  · obtain ⟨e1, r, rfl, e2, e3, e4⟩ := run_binP (x := x) (y := y) r4 ga gb
    exact fin r e1 rfl e2 e3 e4
theorem unOp_ok {o : Oper} {nm : Nat} {v : V} {R W : List Res} {op : UnOp} {t : TypeId} {x : Operand} (ho : o.op = .unOp op t x) (hr : Run ((fetchP x).bind (unP op)) st v st' R W) : OpOk P o nm st v st' := by
  rintro Γ N a w ⟨Z, B, ρ, F, h⟩ hf K Q hk
  obtain ⟨va, st1, R1, W1, R2, W2, r1, r2, -, -⟩ := hr.bind_inv
  obtain ⟨F1, h1⟩ := fetch_sound r1 (rfl : a.tmps = a.tmps) h
  obtain ⟨Ga, ga⟩ := h1.head
  have fin : ∀ r : Value, st' = st1 → v = .d (.p r) → r.oneCell' = true → (Op.unary op (a.eval x)).run P w = .ok r w → o.wp P a w K Q := by
    intro r e1 e2 h0 h5
    subst e1; subst e2
    obtain ⟨F4, h6⟩ := h1.plain h0
    refine wp_value (w' := w) (val := r) ?_ (hk _ _ h6.toNx.satP)
    simp [execOp, ho, h5]
  unfold unP at r2
  split at r2
  · have ea := rel_p ga
    split at r2
    · cases r2; exact fin _ rfl rfl rfl (by rw [ea]; simp [Op.unary, Op.intArith])
    · cases r2; exact fin _ rfl rfl rfl (by rw [ea]; simp [Op.unary, Op.intBits])
    · cases r2
  · have ea := rel_p ga
    split at r2
    · cases r2; exact fin _ rfl rfl rfl (by rw [ea]; simp [Op.unary])
    · cases r2
  · cases r2
theorem nilCheck_ok {o : Oper} {nm : Nat} {v : V} {R W : List Res} {x : Operand} (ho : o.op = .nilCheck x) (hr : Run ((fetchN nm x).bind fun v => v.some?.bind fun _ => .ret v) st v st' R W) : OpOk P o nm st v st' := by
  rintro Γ N a w ⟨Z, B, ρ, F, h⟩ hf K Q hk
  obtain ⟨va, st1, R1, W1, R2, W2, r1, r2, -, -⟩ := hr.bind_inv
  obtain ⟨u, st2, R3, W3, R4, W4, r3, r4, -, -⟩ := r2.bind_inv
  cases r4
  obtain ⟨ρ', F1, h1⟩ := fetchN_sound r1 (hf nm (by omega) (by omega)) rfl h
  obtain ⟨Ga, ga⟩ := h1.head
  have fin : st' = st1 → (execOp a.eval o).run P w = .ok (.value (a.eval x)) w → o.wp P a w K Q := by
    rintro rfl h5
    exact wp_value h5 (hk _ _ (h1.weakN Nx_one).satP)
  unfold V.some? at r3
  split at r3
  · cases r3
    refine fin rfl ?_
    generalize hx : a.eval x = val at ga
    cases ga with
    | mp t1 t2 => cases t2; simp [execOp, ho, hx]
  · cases r3
    refine fin rfl ?_
    generalize hx : a.eval x = val at ga
    cases ga with
    | d t1 t2 =>
      cases t2
      cases t1 with
      | ptr q1 q2 q3 q4 q5 q8 => cases q8; simp [execOp, ho, hx]
  · cases r3
    refine fin rfl ?_
    generalize hx : a.eval x = val at ga
    cases ga with
    | clo t1 t2 => cases t2; simp [execOp, ho, hx]
  · cases r3
theorem rangeAt_drop {b o n : Nat} {us : List Value} (h : w.rangeAt b o us) (hn : n ≤ us.length) : w.rangeAt b (o + n) (us.drop n) := by
  rw [← List.take_append_drop n us, rangeAt_append] at h
  simpa [Nat.min_eq_left hn] using h.2
theorem RelDs.dropTo {ds : List D} {vs : List Value} {G : List Nat} (h : RelDs Z B w ds vs G) (n : Nat) : ∃ G1 G2, G = G1 ++ G2 ∧ RelDs Z B w (ds.drop n) (vs.drop n) G2 := by
  have hlen := h.length
  rcases Nat.lt_or_ge ds.length n with hlt | hge
  · rw [List.drop_of_length_le (by omega), List.drop_of_length_le (by omega)]
    exact ⟨G, [], by simp, .nil⟩
  · rw [← List.take_append_drop n ds] at h
    obtain ⟨va, vb, Fa, Fb, rfl, rfl, q1, q2⟩ := h.split
    refine ⟨Fa, Fb, rfl, ?_⟩
    have hl := q1.length
    have : va.length = n := by simp at hl; omega
    have e : (va ++ vb).drop n = vb := by rw [← this]; simp
    rw [e]
    exact q2
theorem ptr_drop {m : Md} {cs : List D} {val : Value} {G : List Nat} {n : Nat} (hm : m ≠ .own) (h : RelV Z B w ρ (.d (.ptr m cs)) val G) :
    ∃ b o, val = .pointer (some ⟨b, o, none⟩) ∧ (n ≤ cs.length → RelV Z B w ρ (.d (.ptr m (cs.drop n))) (.pointer (some ⟨b, o + n, none⟩)) []) := by
  cases h with
  | d t1 t2 =>
    cases t2
    cases t1 with
    | @ptr _ b o _ us FF _ _ _ q1 q2 q3 q4 q5 q8 =>
      cases q8
      refine ⟨b, o, rfl, fun hn => ?_⟩
      have := q5 hm
      subst this
      obtain ⟨G1, G2, e, q6⟩ := q1.dropTo n
      obtain ⟨rfl, rfl⟩ : G1 = [] ∧ G2 = [] := by simpa using e.symm
      have := RelVs.d (RelDs.ptr (m := m) (G := []) q6 (rangeAt_drop q2 (by rw [← q1.length]; exact hn)) q3 (fun e => absurd e hm) (fun _ => rfl) .nil) (RelVs.nil (Z := Z) (B := B) (w := w) (ρ := ρ))
      have hf : m.foot b = [] := by cases m <;> first | rfl | exact absurd rfl hm
      rw [hf] at this
      exact this
theorem fieldAt_run {t : TypeId} {ty te : Ty} {f : Nat} {q : Nat × TypeId} {b o : Nat} (h1 : tyOf P t = some ty) (h2 : ty.k.field f = some q) (h3 : tyOf P q.2 = some te) (h4 : 0 < te.size) :
    (Instr.fieldAt t (.pointer (some ⟨b, o, none⟩)) f).run P w = .ok (.pointer (some ⟨b, o + q.1, none⟩)) w := by
  obtain ⟨d, i, z, hu, hi, hz, rfl⟩ := tyOf_spec h1
  obtain ⟨d', i', z', hu', hi', hz', rfl⟩ := tyOf_spec h3
  unfold TyK.field at h2
  split at h2
  · rename_i fs hk
    obtain ⟨fa, rfl, rfl⟩ := ofK_struct hk
    rw [List.getElem?_map, Option.map_eq_some_iff] at h2
    obtain ⟨fld, e1, rfl⟩ := h2
    simp at h4
    simp only [Array.getElem?_toList] at e1
    have : ¬ (i'.size = 0) := by omega
    simp [Instr.fieldAt, run_underlying hu, e1, Instr.sureAddr, fieldPlace, sizeOf, typeInfo, hi', this, Addr.add_mid]
  · cases h2
theorem fieldAddr_ok {o : Oper} {nm : Nat} {v : V} {R W : List Res} {t : TypeId} {x : Operand} {f : Nat} (ho : o.op = .fieldAddr t x f) (hr : Run ((fetchN nm x).bind (fieldAddrP P t f)) st v st' R W) : OpOk P o nm st v st' := by
  rintro Γ N a w ⟨Z, B, ρ, F, h⟩ hf K Q hk
  obtain ⟨va, st1, R1, W1, R2, W2, r1, r2, -, -⟩ := hr.bind_inv
  obtain ⟨ρ', F1, h1⟩ := fetchN_sound r1 (hf nm (by omega) (by omega)) rfl h
  unfold fieldAddrP at r2
  obtain ⟨ty, st2, R3, W3, R4, W4, r3, r4, -, -⟩ := r2.bind_inv
  obtain ⟨g1, rfl⟩ := ofO_run r3
  obtain ⟨q, st3, R5, W5, R6, W6, r5, r6, -, -⟩ := r4.bind_inv
  obtain ⟨g2, rfl⟩ := ofO_run r5
  obtain ⟨te, st4, R7, W7, R8, W8, r7, r8, -, -⟩ := r6.bind_inv
  obtain ⟨g3, rfl⟩ := ofO_run r7
  cases r8 with
  | req g4 r9 =>
    obtain ⟨Ga, ga⟩ := h1.head
    have fin : ∀ b oo : Nat, a.eval x = .pointer (some ⟨b, oo, none⟩) → st' = st4 → (∀ G, RelV Z B w ρ' va (a.eval x) G → RelV Z B w ρ' v (.pointer (some ⟨b, oo + q.1, none⟩)) []) → (va.inN (fun r => N r ∨ r = nm) → v.inN (fun r => N r ∨ r = nm)) → o.wp P a w K Q := by
      intro b oo e1 e2 e3 e4
      subst e2
      obtain ⟨F4, h6⟩ := h1.turn (v' := v) (val' := .pointer (some ⟨b, oo + q.1, none⟩)) (fun G g => ⟨[], e3 G g, by simp, by simp⟩) e4
      refine wp_value (w' := w) ?_ (hk _ _ (h6.weakN Nx_one).satP)
      simp [execOp, ho, e1, fieldAt_run g1 g2 g3 g4]
    split at r9
    · cases r9
      generalize hx : a.eval x = val at ga
      cases ga with
      | mp t1 t2 =>
        cases t2
        rename_i r s i j b oo
        refine fin b (oo + i * s + j) hx rfl (fun G g => ?_) (fun hn => hn)
        have := RelVs.mp (Z := Z) (B := B) (w := w) (s := s) (i := i) (j := j + q.1) t1 .nil
        simpa [Nat.add_assoc] using this
    · cases r9
      obtain ⟨b, oo, e1, e2⟩ := ptr_drop (n := q.1) (by simp) ga
      have hlen : True := trivial
      rename_i cs
      by_cases hle : q.1 ≤ cs.length
      · exact fin b oo e1 rfl (fun G g => e2 hle) (fun _ => trivial)
      · -- no cell is left: the list is empty
        refine fin b oo e1 rfl (fun G g => ?_) (fun _ => trivial)
        rw [e1] at g
        cases g with
        | d t1 t2 =>
          cases t2
          cases t1 with
          | ptr q1 q2 q3 q4 q5 q8 =>
            rw [List.drop_of_length_le (by omega)]
            have := RelVs.d (RelDs.ptr (Z := Z) (B := B) (w := w) (m := .frz) (b := b) (o := oo + q.1) (cs := []) (us := []) (F := []) .nil (fun j v hv => by simp at hv) q3 (by simp) (by simp) .nil) (RelVs.nil (ρ := ρ'))
            simpa [Md.foot] using this
    · cases r9
      obtain ⟨b, oo, e1, e2⟩ := ptr_drop (n := q.1) (by simp) ga
      rename_i cs
      by_cases hle : q.1 ≤ cs.length
      · exact fin b oo e1 rfl (fun G g => e2 hle) (fun _ => trivial)
      · refine fin b oo e1 rfl (fun G g => ?_) (fun _ => trivial)
        rw [e1] at g
        cases g with
        | d t1 t2 =>
          cases t2
          cases t1 with
          | ptr q1 q2 q3 q4 q5 q8 =>
            rw [List.drop_of_length_le (by omega)]
            have := RelVs.d (RelDs.ptr (Z := Z) (B := B) (w := w) (m := .bor) (b := b) (o := oo + q.1) (cs := []) (us := []) (F := []) .nil (fun j v hv => by simp at hv) q3 (by simp) (by simp) .nil) (RelVs.nil (ρ := ρ'))
            simpa [Md.foot] using this
    · cases r9
end
section
variable {P : Program} {Γ : Ctx} {Z B : Zone} {ρ : Names} {F : Ix → List Nat} {N : Nat → Prop} {st st' : St} {ps : List V} {vals : List Value} {X : List Nat} {tm : Array Value} {w : World}
theorem RelVs.dropTo {ds : List V} {vs : List Value} {G : List Nat} (h : RelVs Z B w ρ ds vs G) (n : Nat) : ∃ G1 G2, G = G1 ++ G2 ∧ RelVs Z B w ρ (ds.drop n) (vs.drop n) G2 := by
  have hlen := h.length
  rcases Nat.lt_or_ge ds.length n with hlt | hge
  · rw [List.drop_of_length_le (by omega), List.drop_of_length_le (by omega)]
    exact ⟨G, [], by simp, .nil⟩
  · rw [← List.take_append_drop n ds] at h
    obtain ⟨va, vb, Fa, Fb, rfl, rfl, q1, q2⟩ := h.split
    refine ⟨Fa, Fb, rfl, ?_⟩
    have hl := q1.length
    have : va.length = n := by simp at hl; omega
    have e : (va ++ vb).drop n = vb := by rw [← this]; simp
    rw [e]
    exact q2
theorem RelVs.takeTo {ds : List V} {vs : List Value} {G : List Nat} (h : RelVs Z B w ρ ds vs G) (n : Nat) : ∃ G1 G2, G = G1 ++ G2 ∧ RelVs Z B w ρ (ds.take n) (vs.take n) G1 := by
  have hlen := h.length
  rcases Nat.lt_or_ge ds.length n with hlt | hge
  · rw [List.take_of_length_le (by omega), List.take_of_length_le (by omega)]
    exact ⟨G, [], by simp, h⟩
  · rw [← List.take_append_drop n ds] at h
    obtain ⟨va, vb, Fa, Fb, rfl, rfl, q1, q2⟩ := h.split
    refine ⟨Fa, Fb, rfl, ?_⟩
    have hl := q1.length
    have : va.length = n := by simp at hl; omega
    have e : (va ++ vb).take n = va := by rw [← this]; simp
    rw [e]
    exact q1
theorem SatF.headF {v : V} {val : Value} (h : SatF Γ Z B ρ F N st (v :: ps) (val :: vals) X tm w) :
    ∃ G H, F none = (G ++ H) ++ X ∧ RelV Z B w ρ v val G ∧ RelVs Z B w ρ ps vals H ∧ v.inN N ∧ V.inNs N ps := by
  obtain ⟨⟨Fp, p1, p2⟩, p3⟩ := h.pend
  obtain ⟨v0, vs', Fx, G, e, rfl, q1, q2⟩ := p2.cons_split
  cases e
  exact ⟨Fx, G, p1, q1, q2, p3.1, p3.2⟩
theorem SatF.turnF {v v' : V} {val val' : Value} {G G' H : List Nat} (h : SatF Γ Z B ρ F N st (v :: ps) (val :: vals) X tm w) (e : F none = (G ++ H) ++ X) (hH : RelVs Z B w ρ ps vals H)
    (k1 : RelV Z B w ρ v' val' G') (k2 : ∀ x, G'.count x ≤ G.count x) (hn : v'.inN N) (hp : V.inNs N ps) : ∃ F', SatF Γ Z B ρ F' N st (v' :: ps) (val' :: vals) X tm w := by
  have k3 : ∀ x, x ∈ G' → x ∈ G := fun x hx => by
    have h1 := List.count_pos_iff.2 hx
    have h2 := k2 x
    exact List.count_pos_iff.1 (by omega)
  obtain ⟨F', _, h'⟩ := h.rehand (ps' := v' :: ps) (vals' := val' :: vals) (X' := X) (Fp' := G' ++ H) (RelVs.append k1 hH) ⟨hn, hp⟩
    (by rw [e]; intro hh; rw [List.nodup_iff_count] at hh ⊢; intro t; have hh := hh t; have := k2 t; simp only [List.count_append, List.count_cons, List.count_nil] at hh ⊢; omega)
    (by rw [e]; intro x hx; simp only [List.mem_append, List.mem_cons] at hx ⊢; have := k3 x; grind)
  exact ⟨F', h'⟩
theorem asInt_val {v : V} {i : Int} {val : Value} {G : List Nat} (h : v.asInt = some i) (hv : RelV Z B w ρ v val G) : ∃ k, val = .int k i := by
  unfold V.asInt at h
  split at h
  · rename_i k n
    simp only [Option.some.injEq] at h
    subst h
    exact ⟨k, rel_p hv⟩
  · cases h
theorem row_at {m : Md} {s : Nat} {xs : List (List D)} {val : Value} {G : List Nat} {i : Nat} {row : List D} (hm : m ≠ .own) (h : RelV Z B w ρ (.d (.row m s xs)) val G) (hi : xs[i]? = some row) :
    ∃ b o c, val = .slice (some ⟨b, o, none⟩) xs.length c ∧ RelV Z B w ρ (.d (.ptr m row)) (.pointer (some ⟨b, o + i * s, none⟩)) [] := by
  have hlt := (List.getElem?_eq_some_iff.1 hi).1
  cases h with
  | d t1 t2 =>
    cases t2
    cases t1 with
    | none => simp at hlt
    | @row _ _ b o c _ us FF _ _ _ q1 q2 q3 q4 q5 q6 q7 q8 =>
      cases q8
      refine ⟨b, o, c, rfl, ?_⟩
      have := q5 hm
      subst this
      rw [flatten_at hi] at q1
      obtain ⟨u1, u23, G1, G23, rfl, e, k1, k23⟩ := q1.split
      obtain ⟨u2, u3, G2, G3, rfl, e', k2, k3⟩ := k23.split
      obtain ⟨rfl, rfl⟩ : G1 = [] ∧ G23 = [] := by simpa using e.symm
      obtain ⟨rfl, rfl⟩ : G2 = [] ∧ G3 = [] := by simpa using e'.symm
      have hl : u1.length = i * s := by rw [← k1.length, flatten_take_length q6 (by omega)]
      rw [rangeAt_append, rangeAt_append, hl] at q2
      have := RelVs.d (RelDs.ptr (m := m) (G := []) k2 q2.2.1 q3 (fun e => absurd e hm) (fun _ => rfl) .nil) (RelVs.nil (Z := Z) (B := B) (w := w) (ρ := ρ))
      have hf : m.foot b = [] := by cases m <;> first | rfl | exact absurd rfl hm
      rw [hf] at this
      exact this
theorem run_indexAt_slice {t e : TypeId} {i : TypeInfo} (hu : P.underlying t = some (.slice e)) (hi : P.info? e = some i) {b o n c : Nat} {k : IntKind} {ix : Int} (h0 : 0 ≤ ix) (h1 : ix < n) :
    (Instr.indexAt t (.slice (some ⟨b, o, none⟩) n c) (.int k ix)).run P w = .ok (.pointer (some ⟨b, o + ix.toNat * i.size, none⟩)) w := by
  simp [Instr.indexAt, asIntOf, run_underlying hu, h0, h1, sizeOf, typeInfo, hi, Addr.add_mid]
theorem run_indexAt_array {t e : TypeId} {i : TypeInfo} {n : Nat} (hu : P.underlying t = some (.array n e)) (hi : P.info? e = some i) {b o : Nat} {k : IntKind} {ix : Int} (h0 : 0 ≤ ix) (h1 : ix < n) :
    (Instr.indexAt t (.pointer (some ⟨b, o, none⟩)) (.int k ix)).run P w = .ok (.pointer (some ⟨b, o + ix.toNat * i.size, none⟩)) w := by
  simp [Instr.indexAt, asIntOf, run_underlying hu, h0, h1, sizeOf, typeInfo, hi, Addr.add_mid, Instr.sureAddr]
theorem ptr_dropAny {m : Md} {cs : List D} {val : Value} {G : List Nat} {n : Nat} (hm : m ≠ .own) (h : RelV Z B w ρ (.d (.ptr m cs)) val G) :
    ∃ b o, val = .pointer (some ⟨b, o, none⟩) ∧ RelV Z B w ρ (.d (.ptr m (cs.drop n))) (.pointer (some ⟨b, o + n, none⟩)) [] := by
  obtain ⟨b, o, e1, e2⟩ := ptr_drop (n := n) hm h
  refine ⟨b, o, e1, ?_⟩
  by_cases hle : n ≤ cs.length
  · exact e2 hle
  · subst e1
    cases h with
    | d t1 t2 =>
      cases t2
      cases t1 with
      | ptr q1 q2 q3 q4 q5 q8 =>
        rw [List.drop_of_length_le (by omega)]
        have := RelVs.d (RelDs.ptr (Z := Z) (B := B) (w := w) (m := m) (b := b) (o := o + n) (cs := []) (us := []) (F := []) .nil (fun j v hv => by simp at hv) q3 (fun e => absurd e hm) (fun _ => rfl) .nil) (RelVs.nil (ρ := ρ))
        have hf : m.foot b = [] := by cases m <;> first | rfl | exact absurd rfl hm
        rw [hf] at this
        exact this
theorem indexAddr_ok {o : Oper} {nm : Nat} {v : V} {R W : List Res} {t : TypeId} {x y : Operand} (ho : o.op = .indexAddr t x y)
    (hr : Run ((fetchN nm x).bind fun v => (fetchP y).bind fun i => (Prog.ofO i.asInt).bind (indexAddrP P t v)) st v st' R W) : OpOk P o nm st v st' := by
  rintro Γ N a w ⟨Z, B, ρ, F, h⟩ hf K Q hk
  obtain ⟨va, st1, R1, W1, R2, W2, r1, r2, -, -⟩ := hr.bind_inv
  obtain ⟨vi, st2, R3, W3, R4, W4, r3, r4, -, -⟩ := r2.bind_inv
  obtain ⟨ix, st3, R5, W5, R6, W6, r5, r6, -, -⟩ := r4.bind_inv
  obtain ⟨gi, rfl⟩ := ofO_run r5
  obtain ⟨ρ', F1, h1⟩ := fetchN_sound r1 (hf nm (by omega) (by omega)) rfl h
  obtain ⟨F2, h2⟩ := fetch_sound r3 (rfl : a.tmps = a.tmps) h1
  obtain ⟨Gi, gi'⟩ := h2.head
  obtain ⟨k, ek⟩ := asInt_val gi gi'
  obtain ⟨F3, h3⟩ := h2.drop
  obtain ⟨Ga, ga⟩ := h3.head
  have fin : ∀ val', st' = st3 → (Instr.indexAt t (a.eval x) (.int k ix)).run P w = .ok val' w → RelV Z B w ρ' v val' [] → (va.inN (fun r => N r ∨ r = nm) → v.inN (fun r => N r ∨ r = nm)) → o.wp P a w K Q := by
    intro val' e1 e2 e3 e4
    subst e1
    obtain ⟨F4, h6⟩ := h3.turn (v' := v) (val' := val') (fun G g => ⟨[], e3, by simp, by simp⟩) e4
    refine wp_value (w' := w) ?_ (hk _ _ (h6.weakN Nx_one).satP)
    simp [execOp, ho, ek, e2]
  unfold indexAddrP at r6
  obtain ⟨ty, st4, R7, W7, R8, W8, r7, r8, -, -⟩ := r6.bind_inv
  obtain ⟨g1, rfl⟩ := ofO_run r7
  obtain ⟨d, i, z, hu, hi, hz, rfl⟩ := tyOf_spec g1
  dsimp only at r8
  split at r8
  · rename_i e hke
    have := ofK_slice hke; subst this
    obtain ⟨te, st5, R9, W9, R10, W10, r9, r10, -, -⟩ := r8.bind_inv
    obtain ⟨g2, rfl⟩ := ofO_run r9
    obtain ⟨d', i', z', hu', hi', hz', rfl⟩ := tyOf_spec g2
    dsimp only at r10
    generalize hx : a.eval x = val at ga
    split at r10
    · rename_i r s i0 n
      cases r10 with
      | req q1 q2 =>
        cases q2
        obtain ⟨q1, q3, q4⟩ := q1
        cases ga with
        | sl t1 t2 =>
          cases t2
          rcases t1 with ⟨e1, e2⟩ | ⟨b, oo, e1, e2, e3, e4⟩
          · omega
          · subst e2
            refine fin _ rfl (by rw [hx]; exact run_indexAt_slice hu hi' q3 q4) ?_ (fun hn => hn)
            have := RelVs.mp (Z := Z) (B := B) (w := w) (s := s) (i := i0 + ix.toNat) (j := 0) e1 .nil
            rw [← q1]
            simpa [Nat.add_mul, Nat.add_assoc] using this
    · cases r10 with
      | req q1 q2 =>
        obtain ⟨q1, q3, q4⟩ := q1
        obtain ⟨row, st6, R11, W11, R12, W12, r11, r12, -, -⟩ := q2.bind_inv
        obtain ⟨g3, rfl⟩ := ofO_run r11
        cases r12
        obtain ⟨b, oo, c, rfl, e2⟩ := row_at (by simp) ga g3
        exact fin _ rfl (by rw [hx]; exact run_indexAt_slice hu hi' q3 q4) (by rw [← q1]; exact e2) (fun _ => trivial)
    · cases r10 with
      | req q1 q2 =>
        obtain ⟨q1, q3, q4⟩ := q1
        obtain ⟨row, st6, R11, W11, R12, W12, r11, r12, -, -⟩ := q2.bind_inv
        obtain ⟨g3, rfl⟩ := ofO_run r11
        cases r12
        obtain ⟨b, oo, c, rfl, e2⟩ := row_at (by simp) ga g3
        exact fin _ rfl (by rw [hx]; exact run_indexAt_slice hu hi' q3 q4) (by rw [← q1]; exact e2) (fun _ => trivial)
    · cases r10
  · rename_i n e hke
    have := ofK_array hke; subst this
    obtain ⟨te, st5, R9, W9, R10, W10, r9, r10, -, -⟩ := r8.bind_inv
    obtain ⟨g2, rfl⟩ := ofO_run r9
    obtain ⟨d', i', z', hu', hi', hz', rfl⟩ := tyOf_spec g2
    dsimp only at r10
    generalize hx : a.eval x = val at ga
    split at r10
    · rename_i r s i0 j
      cases r10 with
      | req q1 q2 =>
        cases q2
        cases ga with
        | mp t1 t2 =>
          cases t2
          refine fin _ rfl (by rw [hx]; exact run_indexAt_array hu hi' q1.1 q1.2) ?_ (fun hn => hn)
          have := RelVs.mp (Z := Z) (B := B) (w := w) (s := s) (i := i0) (j := j + ix.toNat * i'.size) t1 .nil
          simpa [Nat.add_assoc] using this
    · cases r10 with
      | req q1 q2 =>
        cases q2
        obtain ⟨b, oo, rfl, e2⟩ := ptr_dropAny (n := ix.toNat * i'.size) (by simp) ga
        exact fin _ rfl (by rw [hx]; exact run_indexAt_array hu hi' q1.1 q1.2) e2 (fun _ => trivial)
    · cases r10 with
      | req q1 q2 =>
        cases q2
        obtain ⟨b, oo, rfl, e2⟩ := ptr_dropAny (n := ix.toNat * i'.size) (by simp) ga
        exact fin _ rfl (by rw [hx]; exact run_indexAt_array hu hi' q1.1 q1.2) e2 (fun _ => trivial)
    · cases r10
  · cases r8
theorem index_ok {o : Oper} {nm : Nat} {v : V} {R W : List Res} {t : TypeId} {x y : Operand} (ho : o.op = .index t x y)
    (hr : Run ((fetchP x).bind fun v => (fetchP y).bind fun i => (Prog.ofO i.asInt).bind (indexP P t v)) st v st' R W) : OpOk P o nm st v st' := by
  rintro Γ N a w ⟨Z, B, ρ, F, h⟩ hf K Q hk
  obtain ⟨va, st1, R1, W1, R2, W2, r1, r2, -, -⟩ := hr.bind_inv
  obtain ⟨vi, st2, R3, W3, R4, W4, r3, r4, -, -⟩ := r2.bind_inv
  obtain ⟨ix, st3, R5, W5, R6, W6, r5, r6, -, -⟩ := r4.bind_inv
  obtain ⟨gi, rfl⟩ := ofO_run r5
  obtain ⟨F1, h1⟩ := fetch_sound r1 (rfl : a.tmps = a.tmps) h
  obtain ⟨F2, h2⟩ := fetch_sound r3 (rfl : a.tmps = a.tmps) h1
  obtain ⟨Gi, gi'⟩ := h2.head
  obtain ⟨k, ek⟩ := asInt_val gi gi'
  obtain ⟨F3, h3⟩ := h2.drop
  obtain ⟨Ga, ga⟩ := h3.head
  unfold indexP at r6
  obtain ⟨ty, st4, R7, W7, R8, W8, r7, r8, -, -⟩ := r6.bind_inv
  obtain ⟨g1, rfl⟩ := ofO_run r7
  obtain ⟨d, i, z, hu, hi, hz, rfl⟩ := tyOf_spec g1
  cases r8 with
  | req hk1 r8 =>
    have := ofK_str hk1; subst this
    split at r8
    · rename_i b
      cases r8 with
      | req q1 q2 =>
        obtain ⟨c, st5, R9, W9, R10, W10, r9, r10, -, -⟩ := q2.bind_inv
        obtain ⟨g2, rfl⟩ := ofO_run r9
        cases r10
        have ea := rel_p ga
        obtain ⟨F4, h6⟩ := h3.plain (val' := .int .u8 c.toNat) rfl
        refine wp_value (w' := w) ?_ (hk _ _ h6.toNx.satP)
        have hb : b[ix.toNat]? = some c := by
          obtain ⟨hlt, e⟩ := Array.getElem?_eq_some_iff.1 g2
          have hlt' : ix.toNat < b.size := hlt
          rw [getElem?_pos b _ hlt']
          exact congrArg some e
        simp [execOp, ho, ek, ea, Instr.index, asIntOf, run_underlying hu, q1, hb]
    · cases r8
theorem field_ok {o : Oper} {nm : Nat} {v : V} {R W : List Res} {t : TypeId} {x : Operand} {f : Nat} (ho : o.op = .field t x f) (hr : Run ((fetchP x).bind (fieldP P t f)) st v st' R W) : OpOk P o nm st v st' := by
  rintro Γ N a w ⟨Z, B, ρ, F, h⟩ hf K Q hk
  obtain ⟨va, st1, R1, W1, R2, W2, r1, r2, -, -⟩ := hr.bind_inv
  obtain ⟨F1, h1⟩ := fetch_sound r1 (rfl : a.tmps = a.tmps) h
  unfold fieldP at r2
  split at r2
  · rename_i cs
    obtain ⟨ty, st2, R3, W3, R4, W4, r3, r4, -, -⟩ := r2.bind_inv
    obtain ⟨g1, rfl⟩ := ofO_run r3
    obtain ⟨q, st3, R5, W5, R6, W6, r5, r6, -, -⟩ := r4.bind_inv
    obtain ⟨g2, rfl⟩ := ofO_run r5
    obtain ⟨te, st4, R7, W7, R8, W8, r7, r8, -, -⟩ := r6.bind_inv
    obtain ⟨g3, rfl⟩ := ofO_run r7
    obtain ⟨d, i, z, hu, hi, hz, rfl⟩ := tyOf_spec g1
    obtain ⟨d', i', z', hu', hi', hz', rfl⟩ := tyOf_spec g3
    obtain ⟨Ga, Gh, eF, ga, gh, n1, n2⟩ := h1.headF
    generalize hx : a.eval x = val at ga h1
    cases ga with
    | @agg _ us FF _ _ _ t1 t0 t2 =>
      cases t2
      have hfield : ∃ fa fld, d = .struct fa ∧ fa[f]? = some fld ∧ fld.offset = q.1 ∧ fld.type = q.2 := by
        unfold TyK.field at g2
        split at g2
        · rename_i fs hk'
          obtain ⟨fa, rfl, rfl⟩ := ofK_struct hk'
          rw [List.getElem?_map, Option.map_eq_some_iff] at g2
          obtain ⟨fld, e1, rfl⟩ := g2
          simp only [Array.getElem?_toList] at e1
          exact ⟨fa, fld, rfl, e1, rfl, rfl⟩
        · cases g2
      obtain ⟨fa, fld, rfl, e1, e2, e3⟩ := hfield
      have hrun : ∀ val', (part q.2 us.toArray q.1).run P w = .ok val' w → (execOp a.eval o).run P w = .ok (.value val') w := by
        intro val' hp
        simp [execOp, ho, hx, Instr.field, run_underlying hu, e1, asAgg, e2, e3, hp]
      have hagg : (isAgg q.2).run P w = .ok d'.isRow w := by
        unfold isAgg
        rw [Sem.run_bind, run_underlying hu' w]
        cases d' <;> simp [Sem.run_pure]
      have segs : ∀ (n : Nat), ∃ G', RelVs Z B w ρ ((cs.drop q.1).take n) ((us.drop q.1).take n) G' ∧ (∀ x, G'.count x ≤ (FF ++ []).count x) := by
        intro n
        obtain ⟨G1, G2, rfl, k1⟩ := t1.dropTo q.1
        obtain ⟨G3, G4, rfl, k2⟩ := k1.takeTo n
        exact ⟨G3, k2, fun x => by simp only [List.count_append]; omega⟩
      dsimp only at r8
      split at r8
      · rename_i hag
        cases r8
        rw [ofK_agg] at hag
        have hval : (part q.2 us.toArray q.1).run P w = .ok (.agg ((us.drop q.1).take i'.size).toArray) w := by
          simp [part, hagg, hag, sizeOf, typeInfo, hi']
        obtain ⟨G', k1, k3⟩ := segs i'.size
        obtain ⟨F4, h6⟩ := h1.turnF (v' := .agg ((cs.drop q.1).take i'.size)) (val' := .agg ((us.drop q.1).take i'.size).toArray) eF gh
          (by simpa using RelVs.agg k1 (fun x hx => t0 x (List.mem_of_mem_drop (List.mem_of_mem_take hx))) (RelVs.nil (Z := Z) (B := B) (w := w) (ρ := ρ))) k3 (by
          have := inNs_iff.1 (show V.inNs N cs from n1)
          exact inNs_iff.2 fun x hx => this x (List.mem_of_mem_drop (List.mem_of_mem_take hx))) n2
        exact wp_value (hrun _ hval) (hk _ _ h6.toNx.satP)
      · rename_i hag
        obtain ⟨vv, st5, R9, W9, R10, W10, r9, r10, -, -⟩ := r8.bind_inv
        obtain ⟨g4, rfl⟩ := ofO_run r9
        cases r10
        rw [ofK_agg] at hag
        obtain ⟨G', k1, k3⟩ := segs 1
        have hcs : (cs.drop q.1).take 1 = [v] := by
          rw [List.take_one, List.head?_drop, g4]; rfl
        rw [hcs] at k1
        obtain ⟨val', hval', k1'⟩ : ∃ val', (us.drop q.1).take 1 = [val'] ∧ RelVs Z B w ρ [v] [val'] G' := by
          obtain ⟨v1, vs1, Gx, Gy, e5, e6, k4, k5⟩ := k1.cons_split
          cases k5
          exact ⟨v1, e5, e5 ▸ k1⟩
        have hus : us[q.1]? = some val' := by
          rw [List.take_one, List.head?_drop] at hval'
          cases hq : us[q.1]? with
          | none => rw [hq] at hval'; cases hval'
          | some u => rw [hq] at hval'; simpa using hval'
        have hval : (part q.2 us.toArray q.1).run P w = .ok val' w := by
          simp at hag
          simp [part, hagg, hag, hus]
        obtain ⟨F4, h6⟩ := h1.turnF (v' := v) (val' := val') eF gh k1' k3 (by
          have := inNs_iff.1 (show V.inNs N cs from n1)
          exact this v (List.mem_of_getElem? g4)) n2
        exact wp_value (hrun _ hval) (hk _ _ h6.toNx.satP)
  · cases r2
end
section
variable {P : Program} {Γ : Ctx} {Z B : Zone} {ρ : Names} {F : Ix → List Nat} {N : Nat → Prop} {st st' : St} {ps : List V} {vals : List Value} {X : List Nat} {tm : Array Value} {w : World}
theorem segs_ofD {xs : List (List D)} {i m : Nat} (h : i + m ≤ xs.length) :
    xs.flatten = (xs.take i).flatten ++ (((xs.drop i).take m).flatten ++ (xs.drop (i + m)).flatten) := by
  rw [← List.flatten_append, ← List.flatten_append]
  congr 1
  rw [← List.drop_drop, List.take_append_drop, List.take_append_drop]
theorem RelVs.at {ds : List V} {vs : List Value} {G : List Nat} (h : RelVs Z B w ρ ds vs G) {i : Nat} {v : V} (hi : ds[i]? = some v) :
    ∃ val G', vs[i]? = some val ∧ RelV Z B w ρ v val G' ∧ (∀ x, G'.count x ≤ G.count x) := by
  obtain ⟨G1, G2, rfl, k1⟩ := h.dropTo i
  have hlt := (List.getElem?_eq_some_iff.1 hi).1
  have e : ds.drop i = v :: ds.drop (i + 1) := by
    rw [List.drop_eq_getElem_cons hlt]
    congr 1
    exact (List.getElem?_eq_some_iff.1 hi).2
  rw [e] at k1
  obtain ⟨val, vs', Gx, Gy, e1, rfl, k2, k3⟩ := k1.cons_split
  refine ⟨val, Gx, ?_, k2, fun x => by simp only [List.count_append]; omega⟩
  have := congrArg List.head? e1
  simpa [List.head?_drop] using this
theorem extract_ok {o : Oper} {nm : Nat} {v : V} {R W : List Res} {x : Operand} {i : Nat} (ho : o.op = .extract x i)
    (hr : Run ((fetchP x).bind fun v => match v with
    | .tup vs => (Prog.ofO vs[i]?).bind fun v => .ret v
    | _ => .fail) st v st' R W) : OpOk P o nm st v st' := by
  rintro Γ N a w ⟨Z, B, ρ, F, h⟩ hf K Q hk
  obtain ⟨va, st1, R1, W1, R2, W2, r1, r2, -, -⟩ := hr.bind_inv
  obtain ⟨F1, h1⟩ := fetch_sound r1 (rfl : a.tmps = a.tmps) h
  split at r2
  · rename_i cs
    obtain ⟨vv, st2, R3, W3, R4, W4, r3, r4, -, -⟩ := r2.bind_inv
    obtain ⟨g1, rfl⟩ := ofO_run r3
    cases r4
    obtain ⟨Ga, Gh, eF, ga, gh, n1, n2⟩ := h1.headF
    generalize hx : a.eval x = val at ga h1
    cases ga with
    | @tup _ us FF _ _ _ t1 t2 =>
      cases t2
      obtain ⟨val', G', e1, k1, k2⟩ := t1.at g1
      obtain ⟨F4, h6⟩ := h1.turnF (v' := v) (val' := val') eF gh k1 (by simpa using k2) (by
        have := inNs_iff.1 (show V.inNs N cs from n1)
        exact this v (List.mem_of_getElem? g1)) n2
      refine wp_value (w' := w) ?_ (hk _ _ h6.toNx.satP)
      simp [execOp, ho, hx, Instr.extract, e1]
  · cases r2
theorem makeFunc_ok {o : Oper} {nm : Nat} {v : V} {R W : List Res} {f : FuncId} {first captured : Array Operand} (ho : o.op = .makeFunc (.func f) first captured)
    (hr : Run (if first.size = 0 then (fetchAll captured.toList).bind fun cs => .ret (.clo f cs) else .fail) st v st' R W) : OpOk P o nm st v st' := by
  rintro Γ N a w ⟨Z, B, ρ, F, h⟩ hf K Q hk
  split at hr
  · rename_i hfirst
    obtain ⟨cs, st1, R1, W1, R2, W2, r1, r2, -, -⟩ := hr.bind_inv
    cases r2
    have key : ∀ (xs : List Operand) (cs : List V) (st st1 : St) (R W : List Res) (F : Ix → List Nat) (ps : List V) (vals : List Value), Run (fetchAll xs) st cs st1 R W → SatF Γ Z B ρ F N st ps vals [] a.tmps w →
        ∃ F', SatF Γ Z B ρ F' N st1 (cs ++ ps) (xs.map a.eval ++ vals) [] a.tmps w := by
      intro xs
      induction xs with
      | nil =>
        intro cs st st1 R W F ps vals hr h
        simp only [fetchAll] at hr
        cases hr
        exact ⟨F, h⟩
      | cons x xs ih =>
        intro cs st st1 R W F ps vals hr h
        simp only [fetchAll] at hr
        obtain ⟨v1, st2, R3, W3, R4, W4, r3, r4, -, -⟩ := hr.bind_inv
        obtain ⟨vs, st3, R5, W5, R6, W6, r5, r6, -, -⟩ := r4.bind_inv
        cases r6
        obtain ⟨F1, h1⟩ := fetch_sound r3 (rfl : a.tmps = a.tmps) h
        obtain ⟨F2, h2⟩ := ih vs st2 st1 _ _ F1 _ _ r5 h1
        have hl := h2.lenPend
        have hl1 := h1.lenPend
        have hlx : (xs.map a.eval).length = vs.length := by
          simp only [List.length_append, List.length_cons, List.length_map] at hl hl1 ⊢
          omega
        obtain ⟨F3, h3⟩ := SatF.front (pre := vs) (mid := [v1]) (va := xs.map a.eval) (vm := [a.eval x]) (by simpa using h2) hlx rfl
        exact ⟨F3, by simpa using h3⟩
    obtain ⟨F1, h1⟩ := key _ _ _ _ _ _ F [] [] r1 h
    simp only [List.append_nil] at h1
    obtain ⟨⟨Fp, p1, p2⟩, p3⟩ := h1.pend
    obtain ⟨F2, _, h2⟩ := h1.rehand (ps' := [.clo f cs]) (vals' := [.func (.func f) #[] (captured.map a.eval)]) (X' := []) (Fp' := Fp ++ [])
      (by
        have := RelVs.clo (f := f) p2 (RelVs.nil (Z := Z) (B := B) (w := w) (ρ := ρ))
        have e : (captured.toList.map a.eval).toArray = captured.map a.eval := by apply Array.ext'; simp
        rwa [e] at this) ⟨p3, trivial⟩ (by rw [p1]; simp) (by rw [p1]; simp)
    refine wp_value (w' := w) ?_ (hk _ _ h2.toNx.satP)
    have e0 : first = #[] := by simpa using hfirst
    subst e0
    simp [execOp, ho, Instr.makeFunc]
  · cases hr
theorem len_ok {o : Oper} {nm : Nat} {v : V} {R W : List Res} {x : Operand} {t : TypeId} (ho : o.op = .call { callee := .builtin .len, args := #[x], argTypes := #[t] })
    (hr : Run ((fetchP x).bind (lenP P t)) st v st' R W) : OpOk P o nm st v st' := by
  rintro Γ N a w ⟨Z, B, ρ, F, h⟩ hf K Q hk
  obtain ⟨va, st1, R1, W1, R2, W2, r1, r2, -, -⟩ := hr.bind_inv
  obtain ⟨F1, h1⟩ := fetch_sound r1 (rfl : a.tmps = a.tmps) h
  obtain ⟨ty, st2, R3, W3, R4, W4, r3, r4, -, -⟩ := r2.bind_inv
  obtain ⟨g1, rfl⟩ := ofO_run r3
  obtain ⟨d, i, z, hu, hi, hz, rfl⟩ := tyOf_spec g1
  have fin : ∀ n : Nat, st' = st2 → v = .int n → (Builtin.len_ #[t] o.type #[a.eval x]).run P w = .ok (goInt n) w → o.wp P a w K Q := by
    intro n e1 e2 e3
    subst e1; subst e2
    obtain ⟨F4, h6⟩ := h1.plain (val' := goInt n) rfl
    refine wp_value (w' := w) (val := goInt n) ?_ (hk _ _ h6.toNx.satP)
    simp [execOp, ho, resolve, invoke, builtin, e3]
  obtain ⟨Ga, ga⟩ := h1.head
  have lens : ∀ n, lenOf va = some n → ∃ A c, a.eval x = .slice A n c := by
    intro n hn
    unfold lenOf at hn
    generalize a.eval x = val at ga ⊢
    split at hn
    · simp only [Option.some.injEq] at hn; subst hn
      cases ga with
      | d t1 t2 =>
        cases t2
        cases t1 with
        | none => exact ⟨_, _, rfl⟩
        | row => exact ⟨_, _, rfl⟩
    · simp only [Option.some.injEq] at hn; subst hn
      have := rel_p ga; subst this
      exact ⟨_, _, rfl⟩
    · simp only [Option.some.injEq] at hn; subst hn
      cases ga with
      | sl t1 t2 => cases t2; exact ⟨_, _, rfl⟩
    · simp only [Option.some.injEq] at hn; subst hn
      cases ga with
      | arr => exact ⟨_, _, rfl⟩
    · cases hn
  dsimp only at r4
  split at r4
  · rename_i n e hk'
    have := ofK_array hk'; subst this
    cases r4
    exact fin n rfl rfl (by simp [Builtin.len_, run_underlying hu])
  · rename_i e hk'
    have := ofK_slice hk'; subst this
    obtain ⟨n, st3, R5, W5, R6, W6, r5, r6, -, -⟩ := r4.bind_inv
    obtain ⟨g2, rfl⟩ := ofO_run r5
    cases r6
    obtain ⟨A, c, e1⟩ := lens n g2
    exact fin n rfl rfl (by rw [e1]; simp [Builtin.len_, run_underlying hu])
  · rename_i hk'
    have := ofK_str hk'; subst this
    obtain ⟨n, st3, R5, W5, R6, W6, r5, r6, -, -⟩ := r4.bind_inv
    obtain ⟨g2, rfl⟩ := ofO_run r5
    cases r6
    unfold lenStr at g2
    split at g2
    · simp only [Option.some.injEq] at g2
      subst g2
      have := rel_p ga
      exact fin _ rfl rfl (by rw [this]; simp [Builtin.len_, run_underlying hu])
    · cases g2
  · cases r4
theorem minmax_ok {o : Oper} {nm : Nat} {v : V} {R W : List Res} {x y : Operand} {ts : Array TypeId} {mx : Bool} (ho : o.op = .call { callee := .builtin (if mx then .max else .min), args := #[x, y], argTypes := ts })
    (hr : Run ((fetchP x).bind fun a => (fetchP y).bind fun b => minmaxP mx a b) st v st' R W) : OpOk P o nm st v st' := by
  rintro Γ N a w ⟨Z, B, ρ, F, h⟩ hf K Q hk
  obtain ⟨va, st1, R1, W1, R2, W2, r1, r2, -, -⟩ := hr.bind_inv
  obtain ⟨vb, st2, R3, W3, R4, W4, r3, r4, -, -⟩ := r2.bind_inv
  obtain ⟨F1, h1⟩ := fetch_sound r1 (rfl : a.tmps = a.tmps) h
  obtain ⟨F2, h2⟩ := fetch_sound r3 (rfl : a.tmps = a.tmps) h1
  obtain ⟨Gb, gb⟩ := h2.head
  obtain ⟨F3, h3⟩ := h2.drop
  obtain ⟨Ga, ga⟩ := h3.head
  unfold minmaxP at r4
  split at r4
  · cases r4
    rename_i k n k' m
    have ea := rel_p ga
    have eb := rel_p gb
    obtain ⟨F4, h6⟩ := h3.plain (val' := .int k (if (if mx then decide (m > n) else decide (m < n)) = true then m else n)) rfl
    refine wp_value (w' := w) ?_ (hk _ _ h6.toNx.satP)
    cases mx
    · simp [execOp, ho, resolve, invoke, builtin, ea, eb, Builtin.min_, Builtin.min2]
    · simp [execOp, ho, resolve, invoke, builtin, ea, eb, Builtin.max_, Builtin.max2]
  · cases r4
def OptRel (Z B : Zone) (w : World) (ρ : Names) (a : Act) : Option Operand → Option V → Prop
  | none, none => True
  | some x, some v => ∃ G, RelV Z B w ρ v (a.eval x) G
  | _, _ => False
theorem fetchO_sound {a : Act} {x : Option Operand} {v : Option V} {R W : List Res} (hr : Run (fetchO x) st v st' R W) (ha : a.tmps = tm) (h : SatF Γ Z B ρ F N st ps vals X tm w) :
    ∃ F', SatF Γ Z B ρ F' N st' ps vals X tm w ∧ OptRel Z B w ρ a x v := by
  cases x with
  | none => simp only [fetchO] at hr; cases hr; exact ⟨F, h, trivial⟩
  | some x =>
    simp only [fetchO] at hr
    obtain ⟨v1, st1, R1, W1, R2, W2, r1, r2, -, -⟩ := hr.bind_inv
    cases r2
    obtain ⟨F1, h1⟩ := fetch_sound r1 ha h
    obtain ⟨G, g⟩ := h1.head
    obtain ⟨F2, h2⟩ := h1.drop
    exact ⟨F2, h2, G, g⟩
theorem bound_sound {n dflt k : Nat} {x : Option Operand} {v : Option V} {a : Act} {R W : List Res} (hr : Run (boundP n dflt v) st k st' R W)
    (h : OptRel Z B w ρ a x v) :
    st' = st ∧ ((x.map a.eval = none ∧ k = dflt) ∨ (∃ kk, x.map a.eval = some (.int kk k) ∧ k ≤ n)) := by
  cases v with
  | none =>
    simp only [boundP] at hr
    cases hr
    cases x with
    | none => exact ⟨rfl, .inl ⟨rfl, rfl⟩⟩
    | some x => exact h.elim
  | some v =>
    simp only [boundP] at hr
    cases x with
    | none => exact h.elim
    | some x =>
      obtain ⟨G, g⟩ := h
      obtain ⟨i, st1, R1, W1, R2, W2, r1, r2, -, -⟩ := hr.bind_inv
      obtain ⟨g1, rfl⟩ := ofO_run r1
      cases r2 with
      | req q1 q2 =>
        cases q2
        obtain ⟨kk, e⟩ := asInt_val g1 g
        refine ⟨rfl, .inr ⟨kk, ?_, by omega⟩⟩
        simp [e]
        omega
theorem run_sliceBound {i : Int} {kk : IntKind} {n k : Nat} {code : BoundsCode} (e : i = k) (h : k ≤ n) : (Instr.sliceBound (.int kk i) n code).run P w = .ok k w := by
  subst e
  have h2 : (k : Int) ≤ n := by omega
  simp [Instr.sliceBound, asIntOf, h2]
theorem run_sliceBounds {isS : Bool} {len cap h l : Nat} {lo hi : Option Value} (hh : (hi = none ∧ h = len) ∨ (∃ kk, hi = some (.int kk h) ∧ h ≤ len)) (hc : len ≤ cap)
    (hl : (lo = none ∧ l = 0) ∨ (∃ kk, lo = some (.int kk l) ∧ l ≤ h)) : (Instr.sliceBounds isS len cap lo hi none).run P w = .ok (l, h, cap) w := by
  unfold Instr.sliceBounds
  rcases hh with ⟨rfl, rfl⟩ | ⟨kk, rfl, h1⟩ <;> rcases hl with ⟨rfl, rfl⟩ | ⟨kl, rfl, h2⟩
  · simp
  · simp [run_sliceBound rfl h2]
  · simp [run_sliceBound rfl (Nat.le_trans h1 hc)]
  · simp [run_sliceBound rfl h2, run_sliceBound rfl (Nat.le_trans h1 hc)]
theorem row_cut {m : Md} {s l h : Nat} {xs : List (List D)} {val : Value} {G : List Nat} (hm : m ≠ .own) (hv : RelV Z B w ρ (.d (.row m s xs)) val G) (h1 : h ≤ xs.length) (h2 : l ≤ h) :
    ∃ A c, val = .slice A xs.length c ∧ xs.length ≤ c ∧ RelV Z B w ρ (.d (.row m s ((xs.drop l).take (h - l)))) (.slice (if c = l then A else A.map (·.add (l * s))) (h - l) (c - l)) [] := by
  cases hv with
  | d t1 t2 =>
    cases t2
    cases t1 with
    | none t3 =>
      cases t3
      simp at h1
      subst h1
      have : l = 0 := by omega
      subst this
      exact ⟨_, _, rfl, Nat.le_refl _, by simpa using RelVs.d (RelDs.none (m := m) (s := s) .nil) (RelVs.nil (Z := Z) (B := B) (w := w) (ρ := ρ))⟩
    | @row _ _ b o c _ us FF _ _ _ q1 q2 q3 q4 q5 q6 q7 q8 =>
      cases q8
      refine ⟨_, c, rfl, q7, ?_⟩
      have := q5 hm
      subst this
      by_cases hcl : c = l
      · have e1 : h - l = 0 := by omega
        have e2 : c - l = 0 := by omega
        rw [e1, e2]
        simpa using RelVs.d (RelDs.none (m := m) (s := s) .nil) (RelVs.nil (Z := Z) (B := B) (w := w) (ρ := ρ))
      · have e := segs_ofD (xs := xs) (i := l) (m := h - l) (by omega)
        rw [e] at q1
        obtain ⟨u1, u23, G1, G23, rfl, e1, k1, k23⟩ := q1.split
        obtain ⟨u2, u3, G2, G3, rfl, e2, k2, k3⟩ := k23.split
        obtain ⟨rfl, rfl⟩ : G1 = [] ∧ G23 = [] := by simpa using e1.symm
        obtain ⟨rfl, rfl⟩ : G2 = [] ∧ G3 = [] := by simpa using e2.symm
        have hl : u1.length = l * s := by rw [← k1.length, flatten_take_length q6 (by omega)]
        rw [rangeAt_append, rangeAt_append, hl] at q2
        have hlen : ((xs.drop l).take (h - l)).length = h - l := by simp; omega
        have := RelVs.d (RelDs.row (m := m) (s := s) (c := c - l) (G := []) k2 q2.2.1 q3 (fun e => absurd e hm) (fun _ => rfl)
          (fun x hx => q6 x (List.mem_of_mem_drop (List.mem_of_mem_take hx))) (by rw [hlen]; omega) .nil) (RelVs.nil (Z := Z) (B := B) (w := w) (ρ := ρ))
        have hf : m.foot b = [] := by cases m <;> first | rfl | exact absurd rfl hm
        rw [hf, hlen] at this
        rw [if_neg hcl]
        simpa [Addr.add_mid] using this
theorem slice_ok {o : Oper} {nm : Nat} {v : V} {R W : List Res} {x : Operand} {t : TypeId} {lo hi : Option Operand} (ho : o.op = .slice t x lo hi none)
    (hr : Run ((fetchN nm x).bind fun v => (fetchO lo).bind fun l => (fetchO hi).bind fun h => sliceP P t v l h) st v st' R W) : OpOk P o nm st v st' := by
  rintro Γ N a w ⟨Z, B, ρ, F, h⟩ hf K Q hk
  obtain ⟨va, st1, R1, W1, R2, W2, r1, r2, -, -⟩ := hr.bind_inv
  obtain ⟨vl, st2, R3, W3, R4, W4, r3, r4, -, -⟩ := r2.bind_inv
  obtain ⟨vh, st3, R5, W5, R6, W6, r5, r6, -, -⟩ := r4.bind_inv
  obtain ⟨ρ', F1, h1⟩ := fetchN_sound r1 (hf nm (by omega) (by omega)) rfl h
  obtain ⟨F2, h2, bl⟩ := fetchO_sound (a := a) r3 rfl h1
  obtain ⟨F3, h3, bh⟩ := fetchO_sound (a := a) r5 rfl h2
  obtain ⟨Ga, Gh, eF, ga, gh, n1, n2⟩ := h3.headF
  have fin : ∀ (val' : Value) (G' : List Nat), st' = st3 → (Instr.sliceAt t (a.eval x) (lo.map a.eval) (hi.map a.eval) none).run P w = .ok val' w → RelV Z B w ρ' v val' G' → (∀ x, G'.count x ≤ Ga.count x) → v.inN (fun r => N r ∨ r = nm) → o.wp P a w K Q := by
    intro val' G' e1 e2 e3 e4 e5
    subst e1
    obtain ⟨F4, h6⟩ := h3.turnF (v' := v) (val' := val') eF gh e3 e4 e5 n2
    refine wp_value (w' := w) ?_ (hk _ _ (h6.weakN Nx_one).satP)
    simp [execOp, ho, e2]
  have bounds : ∀ {n l h' : Nat} {stA stB stC : St} {RA WA RB WB : List Res}, Run (boundP n n vh) stA h' stB RA WA → Run (boundP h' 0 vl) stB l stC RB WB →
      stC = stA ∧ h' ≤ n ∧ l ≤ h' ∧ (∀ isS cap, n ≤ cap → (Instr.sliceBounds isS n cap (lo.map a.eval) (hi.map a.eval) none).run P w = .ok (l, h', cap) w) := by
    intro n l h' stA stB stC RA WA RB WB ra rb
    obtain ⟨e1, b1⟩ := bound_sound (a := a) (x := hi) ra bh
    obtain ⟨e2, b2⟩ := bound_sound (a := a) (x := lo) rb bl
    have c1 : h' ≤ n := by rcases b1 with ⟨_, rfl⟩ | ⟨_, _, h⟩ <;> omega
    have c2 : l ≤ h' := by rcases b2 with ⟨_, rfl⟩ | ⟨_, _, h⟩ <;> omega
    exact ⟨e2.trans e1, c1, c2, fun isS cap hc => run_sliceBounds b1 hc b2⟩
  unfold sliceP at r6
  split at r6
  · rename_i b
    obtain ⟨ty, st4, R7, W7, R8, W8, r7, r8, -, -⟩ := r6.bind_inv
    obtain ⟨g1, rfl⟩ := ofO_run r7
    obtain ⟨d, i, z, hu, hi', hz, rfl⟩ := tyOf_spec g1
    cases r8 with
    | req q1 q2 =>
      have := ofK_str q1; subst this
      obtain ⟨h', st5, R9, W9, R10, W10, r9, r10, -, -⟩ := q2.bind_inv
      obtain ⟨l, st6, R11, W11, R12, W12, r11, r12, -, -⟩ := r10.bind_inv
      cases r12
      obtain ⟨e1, c1, c2, c3⟩ := bounds r9 r11
      have ea := rel_p ga
      refine fin (.string (b.extract l h')) [] e1 ?_ (.d (.p rfl .nil) .nil) (by simp) trivial
      simp [Instr.sliceAt, run_underlying hu, ea, Instr.slice, c3 false b.size (Nat.le_refl _)]
  · rename_i r s i n
    obtain ⟨ty, st4, R7, W7, R8, W8, r7, r8, -, -⟩ := r6.bind_inv
    obtain ⟨g1, rfl⟩ := ofO_run r7
    obtain ⟨d, i', z, hu, hi', hz, rfl⟩ := tyOf_spec g1
    dsimp only at r8
    split at r8
    · rename_i e hk'
      have := ofK_slice hk'; subst this
      obtain ⟨te, st5, R9, W9, R10, W10, r9, r10, -, -⟩ := r8.bind_inv
      obtain ⟨g2, rfl⟩ := ofO_run r9
      obtain ⟨d2, i2, z2, hu2, hi2, hz2, rfl⟩ := tyOf_spec g2
      cases r10 with
      | req q1 q2 =>
        obtain ⟨h', st6, R11, W11, R12, W12, r11, r12, -, -⟩ := q2.bind_inv
        obtain ⟨l, st7, R13, W13, R14, W14, r13, r14, -, -⟩ := r12.bind_inv
        cases r14
        obtain ⟨e1, c1, c2, c3⟩ := bounds r11 r13
        dsimp only at q1
        generalize hx : a.eval x = val at ga
        cases ga with
        | @sl _ _ _ _ c A _ _ _ t1 t2 =>
          cases t2
          have hnc : n ≤ c := by rcases t1 with ⟨a1, a2⟩ | ⟨_, _, _, _, _, a4⟩ <;> omega
          refine fin (.slice (if c = l then A else A.map (·.add (l * i2.size))) (h' - l) (c - l)) [] e1 ?_ ?_ (by simp) n1
          · simp [Instr.sliceAt, run_underlying hu, hx, Instr.slice, c3 true c hnc, sizeOf, typeInfo, hi2]
          · refine .sl ?_ .nil
            rcases t1 with ⟨a1, a2⟩ | ⟨b, oo, a1, a2, a3, a4⟩
            · exact .inl ⟨by omega, by omega⟩
            · by_cases hcl : c = l
              · exact .inl ⟨by omega, by omega⟩
              · refine .inr ⟨b, oo, a1, ?_, a3.le ?_, by omega⟩
                · rw [if_neg hcl, a2]
                  simp only [Option.map_some, Addr.add_mid, ← q1, Nat.add_mul]
                  congr 2
                  omega
                · have : i + l + (c - l) = i + c := by omega
                  rw [this]
                  exact Nat.le_refl _
    · cases r8
  · rename_i s xs
    obtain ⟨ty, st4, R7, W7, R8, W8, r7, r8, -, -⟩ := r6.bind_inv
    obtain ⟨g1, rfl⟩ := ofO_run r7
    obtain ⟨d, i', z, hu, hi', hz, rfl⟩ := tyOf_spec g1
    dsimp only at r8
    split at r8
    · rename_i e hk'
      have := ofK_slice hk'; subst this
      obtain ⟨te, st5, R9, W9, R10, W10, r9, r10, -, -⟩ := r8.bind_inv
      obtain ⟨g2, rfl⟩ := ofO_run r9
      obtain ⟨d2, i2, z2, hu2, hi2, hz2, rfl⟩ := tyOf_spec g2
      cases r10 with
      | req q1 q2 =>
        obtain ⟨h', st6, R11, W11, R12, W12, r11, r12, -, -⟩ := q2.bind_inv
        obtain ⟨l, st7, R13, W13, R14, W14, r13, r14, -, -⟩ := r12.bind_inv
        cases r14
        obtain ⟨e1, c1, c2, c3⟩ := bounds r11 r13
        dsimp only at q1
        obtain ⟨A, c, hx, hnc, hrel⟩ := row_cut (by simp) ga c1 c2
        refine fin (.slice (if c = l then A else A.map (·.add (l * i2.size))) (h' - l) (c - l)) [] e1 ?_ (by rw [← q1]; exact hrel) (by simp) trivial
        simp [Instr.sliceAt, run_underlying hu, hx, Instr.slice, c3 true c hnc, sizeOf, typeInfo, hi2]
    · cases r8
  · rename_i s xs
    obtain ⟨ty, st4, R7, W7, R8, W8, r7, r8, -, -⟩ := r6.bind_inv
    obtain ⟨g1, rfl⟩ := ofO_run r7
    obtain ⟨d, i', z, hu, hi', hz, rfl⟩ := tyOf_spec g1
    dsimp only at r8
    split at r8
    · rename_i e hk'
      have := ofK_slice hk'; subst this
      obtain ⟨te, st5, R9, W9, R10, W10, r9, r10, -, -⟩ := r8.bind_inv
      obtain ⟨g2, rfl⟩ := ofO_run r9
      obtain ⟨d2, i2, z2, hu2, hi2, hz2, rfl⟩ := tyOf_spec g2
      cases r10 with
      | req q1 q2 =>
        obtain ⟨h', st6, R11, W11, R12, W12, r11, r12, -, -⟩ := q2.bind_inv
        obtain ⟨l, st7, R13, W13, R14, W14, r13, r14, -, -⟩ := r12.bind_inv
        cases r14
        obtain ⟨e1, c1, c2, c3⟩ := bounds r11 r13
        dsimp only at q1
        obtain ⟨A, c, hx, hnc, hrel⟩ := row_cut (by simp) ga c1 c2
        refine fin (.slice (if c = l then A else A.map (·.add (l * i2.size))) (h' - l) (c - l)) [] e1 ?_ (by rw [← q1]; exact hrel) (by simp) trivial
        simp [Instr.sliceAt, run_underlying hu, hx, Instr.slice, c3 true c hnc, sizeOf, typeInfo, hi2]
    · cases r8
  · cases r6
end
section
variable {P : Program} {Γ : Ctx} {Z B : Zone} {ρ : Names} {F : Ix → List Nat} {N : Nat → Prop} {st st' : St} {ps : List V} {vals : List Value} {X : List Nat} {tm : Array Value} {w : World}
theorem SatF.lens {pre : List V} {v : V} {va vc : List Value} {val : Value} (h : SatF Γ Z B ρ F N st (pre ++ v :: ps) (va ++ val :: vc) X tm w) (la : va.length = pre.length) : vc.length = ps.length := by
  have := h.lenPend
  simp only [List.length_append, List.length_cons] at this
  omega
theorem cells_sound {pre : List V} {v : V} {cs : List V} {va vc : List Value} {val : Value} {R W : List Res} (hr : Run (cellsP v) st cs st' R W)
    (h : SatF Γ Z B ρ F N st (pre ++ v :: ps) (va ++ val :: vc) X tm w) (la : va.length = pre.length) :
    ∃ F', SatF Γ Z B ρ F' N st' (pre ++ (cs ++ ps)) (va ++ (val.cells.toList ++ vc)) X tm w ∧ (∀ u ∈ val.cells.toList, u.oneCell' = true) ∧ val.cells.toList.length = cs.length := by
  obtain ⟨Fa, Fm, Fc, e0, q1, q2, q3, n1, n2, n3⟩ := SatF.partsAt (pre := pre) (mid := [v]) (ps := ps) (va := va) (vm := [val]) (vc := vc) (by simpa using h) la rfl
  have one : ∀ (hc : val.oneCell' = true), cs = [v] → st' = st → ∃ F', SatF Γ Z B ρ F' N st' (pre ++ (cs ++ ps)) (va ++ (val.cells.toList ++ vc)) X tm w ∧ (∀ u ∈ val.cells.toList, u.oneCell' = true) ∧ val.cells.toList.length = cs.length := by
    rintro hc rfl rfl
    have e : val.cells = #[val] := by cases val <;> first | rfl | simp [Value.oneCell'] at hc
    refine ⟨F, ?_, by rw [e]; simpa using hc, by rw [e]; rfl⟩
    rw [e]
    simpa using h
  unfold cellsP at hr
  split at hr
  · cases hr
    generalize hv : [val] = vv at q2
    cases q2 with
    | @agg _ us FF _ _ _ t1 t0 t2 =>
      cases t2
      simp only [List.cons.injEq, and_true] at hv
      subst hv
      obtain ⟨F', _, h'⟩ := h.rehand (ps' := pre ++ (cs ++ ps)) (vals' := va ++ (us ++ vc)) (X' := X) (Fp' := Fa ++ (FF ++ Fc)) (RelVs.append q1 (RelVs.append t1 q3))
        (by rw [inNs_append, inNs_append]; exact ⟨n1, n2.1, n3⟩) (by rw [e0]; intro hh; rw [List.nodup_iff_count] at hh ⊢; intro t; have hh := hh t; simp only [List.count_append, List.count_cons, List.count_nil] at hh ⊢; omega)
        (by rw [e0]; intro x hx; simp only [List.mem_append, List.mem_cons] at hx ⊢; grind)
      exact ⟨F', by simpa [Value.cells] using h', by simpa [Value.cells] using t0, by simp [Value.cells, t1.length]⟩
  · rename_i s xs
    obtain ⟨ds, st1, R1, W1, R2, W2, r1, r2, -, -⟩ := hr.bind_inv
    cases r2
    have hres : Run (resV 7 (.arr s xs)) st (.row .own s ds) st' (R1 ++ []) (W1 ++ []) := by
      unfold resV
      exact Run.bind (f := fun ds => Prog.ret (D.row .own s ds)) r1 Run.ret
    obtain ⟨F1, h1⟩ := (res_sound 7).1 _ _ _ _ _ _ pre ps _ X F hres h
    have hval : val.oneCell' = true ∧ val.cells.toList = [val] := by
      generalize hv : [val] = vv at q2
      cases q2 with
      | arr t1 t2 t3 t4 t5 t6 =>
        cases t6
        simp only [List.cons.injEq, and_true] at hv
        subst hv
        exact ⟨rfl, rfl⟩
    refine ⟨F1, ?_, by rw [hval.2]; simpa using hval.1, by rw [hval.2]; rfl⟩
    rw [hval.2]
    simpa using h1
  · cases hr
  · rename_i h1 h2 h3
    cases hr
    refine one ?_ rfl rfl
    generalize hv : [val] = vv at q2
    cases q2 with
    | d t1 t2 =>
      cases t2
      simp only [List.cons.injEq, and_true] at hv
      subst hv
      exact t1.one _ (by simp)
    | sl t1 t2 => cases t2; simp only [List.cons.injEq, and_true] at hv; subst hv; rfl
    | mp t1 t2 => cases t2; simp only [List.cons.injEq, and_true] at hv; subst hv; rfl
    | clo t1 t2 => cases t2; simp only [List.cons.injEq, and_true] at hv; subst hv; rfl
    | agg => exact absurd rfl (h1 _)
    | tup => exact absurd rfl (h3 _)
    | arr => exact absurd rfl (h2 _ _)
theorem nameP_rw {nm : Nat} {v v' : V} {R W : List Res} (hr : Run (nameP nm v) st v' st' R W) : R = [] ∧ ∀ x ∈ W, x = .r nm := by
  unfold nameP at hr
  split at hr
  · cases hr with | set h => cases h; simp
  · cases hr with | set h => cases h; simp
  · cases hr with | set h => cases h; simp
  · cases hr; simp
theorem outP_rw {nm : Nat} : ∀ {vs vs' : List V} {c : Nat} {st st' : St} {R W : List Res}, Run (outP nm vs c) st vs' st' R W → R = [] ∧ (∀ x ∈ W, ∃ k, c ≤ k ∧ k < c + vs.length ∧ x = .r (nm + k)) ∧ vs'.length = vs.length
  | [], vs', c, st, st', R, W, h => by simp only [outP] at h; cases h; simp
  | v :: vs, vs', c, st, st', R, W, h => by
    simp only [outP] at h
    obtain ⟨v1, st1, R1, W1, R2, W2, r1, r2, rfl, rfl⟩ := h.bind_inv
    obtain ⟨vs1, st2, R3, W3, R4, W4, r3, r4, rfl, rfl⟩ := r2.bind_inv
    cases r4
    obtain ⟨rfl, a1⟩ := nameP_rw r1
    obtain ⟨rfl, a2, a3⟩ := outP_rw r3
    refine ⟨rfl, ?_, by simp [a3]⟩
    intro x hx
    simp only [List.mem_append, List.not_mem_nil, or_false] at hx
    rcases hx with hx | hx
    · exact ⟨c, by omega, by simp, a1 x hx⟩
    · obtain ⟨k, k1, k2, k3⟩ := a2 x hx
      exact ⟨k, by omega, by simp; omega, k3⟩
theorem out_sound {nm : Nat} : ∀ {vs vs' : List V} {c : Nat} {st st' : St} {N : Nat → Prop} {ρ : Names} {F : Ix → List Nat} {pre : List V} {R W : List Res}, Run (outP nm vs c) st vs' st' R W →
    (∀ k, c ≤ k → k < c + vs.length → ¬ N (nm + k)) → SatF Γ Z B ρ F N st (pre ++ (vs ++ ps)) vals X tm w →
    ∃ ρ' F', (∀ r, (∀ k, c ≤ k → k < c + vs.length → r ≠ nm + k) → ρ' r = ρ r) ∧ SatF Γ Z B ρ' F' (fun r => N r ∨ (nm + c ≤ r ∧ r < nm + c + vs.length)) st' (pre ++ (vs' ++ ps)) vals X tm w
  | [], vs', c, st, st', N, ρ, F, pre, R, W, h, hn, hs => by
    simp only [outP] at h
    cases h
    exact ⟨ρ, F, fun _ _ => rfl, hs.weakN (fun _ x => .inl x)⟩
  | v :: vs, vs', c, st, st', N, ρ, F, pre, R, W, h, hn, hs => by
    simp only [outP] at h
    obtain ⟨v1, st1, R1, W1, R2, W2, r1, r2, -, -⟩ := h.bind_inv
    obtain ⟨vs1, st2, R3, W3, R4, W4, r3, r4, -, -⟩ := r2.bind_inv
    cases r4
    obtain ⟨ρ1, F1, a1, h1⟩ := name_sound (pre := pre) (ps := vs ++ ps) r1 (hn c (Nat.le_refl _) (by simp)) (by simpa using hs)
    obtain ⟨ρ2, F2, a2, h2⟩ := out_sound (pre := pre ++ [v1]) (N := fun r => N r ∨ r = nm + c) r3 (by
      intro k k1 k2 hk
      rcases hk with hk | hk
      · exact hn k (by omega) (by simp; omega) hk
      · omega) (by simpa using h1)
    refine ⟨ρ2, F2, ?_, ?_⟩
    · intro r hr
      rw [a2 r (fun k k1 k2 => hr k (by omega) (by simp; omega)), a1 r (hr c (Nat.le_refl _) (by simp))]
    · have : SatF Γ Z B ρ2 F2 (fun r => N r ∨ (nm + c ≤ r ∧ r < nm + c + (v :: vs).length)) st' (pre ++ [v1] ++ (vs1 ++ ps)) vals X tm w := h2.weakN (by
        intro r hr
        rcases hr with (hr | hr) | hr
        · exact .inl hr
        · exact .inr ⟨by omega, by simp; omega⟩
        · exact .inr ⟨by omega, by simp; omega⟩)
      simpa using this
theorem run_loadVar_one (w : World) (b o : Nat) (ty : TypeId) (u : Value) (d : TypeDesc) (hc : w.cell? ⟨b, o, none⟩ = some u) (hu : P.underlying ty = some d) (hd : d.isRow = false) :
    (loadVar ty ⟨b, o, none⟩).run P w = .ok u w := by
  have hagg : (isAgg ty).run P w = .ok false w := by
    unfold isAgg
    rw [Sem.run_bind, run_underlying hu w]
    cases d <;> simp_all
  simp [loadVar, Sem.run_bind, hagg, hc]
theorem asVal_load {t : TypeId} {ty : Ty} {cs : List V} {us : List Value} {G : List Nat} {v : V} {b o : Nat} {R W : List Res} (ht : tyOf P t = some ty) (hr : Run (asVal ty.k.agg cs) st v st' R W)
    (hrel : RelVs Z B w ρ cs us G) (hone : ∀ u ∈ us, u.oneCell' = true) (hl : us.length = ty.size) (hrange : w.rangeAt b o us) :
    st' = st ∧ (∀ N, V.inNs N cs → v.inN N) ∧ ∃ val, (Instr.loadAt t (.pointer (some ⟨b, o, none⟩))).run P w = .ok val w ∧ RelV Z B w ρ v val (G ++ []) := by
  obtain ⟨d, i, z, hu, hi, hz, rfl⟩ := tyOf_spec ht
  unfold asVal at hr
  split at hr
  · rename_i hag
    rw [ofK_agg] at hag
    cases hr
    refine ⟨rfl, fun N hn => hn, .agg us.toArray, ?_, by simpa using RelVs.agg hrel hone (RelVs.nil (Z := Z) (B := B) (w := w) (ρ := ρ))⟩
    exact run_loadAt_mid w b o t us d hrange hu hag (by simp [hi, hl])
  · rename_i hag
    rw [ofK_agg] at hag
    split at hr
    · rename_i x
      cases hr
      obtain ⟨u, us', Gx, Gy, rfl, rfl, k1, k2⟩ := hrel.cons_split
      cases k2
      refine ⟨rfl, fun N hn => hn.1, u, ?_, by simpa using k1⟩
      have := run_loadVar_one (P := P) w b o t u d (by simpa using hrange 0 u rfl) hu (by simpa using hag)
      simpa [Instr.loadAt, Instr.sureAddr] using this
    · cases hr
theorem SatF.close {r s b o : Nat} {xs : List (List V)} {us vc : List Value} (h : SatF Γ Z B ρ F N st (xs.flatten ++ ps) (us ++ vc) (b :: X) tm w)
    (hl : us.length = xs.flatten.length) (hN : N r) (hst : st (.r r) = none) (hρ : ρ r = some ⟨b, o, none⟩) (hone : ∀ u ∈ us, u.oneCell' = true) (hrange : w.rangeAt b o us)
    (hblk : Blk w b (o + xs.length * s)) (huni : ∀ x ∈ xs, x.length = s) (hin : V.inNss N xs) :
    ∃ F', SatF Γ Z B ρ F' N (upd st (.r r) (some (.o s xs))) ps vc X tm w := by
  obtain ⟨Fa, Fm, Fc, e0, q1, q2, q3, n1, n2, n3⟩ := SatF.partsAt (pre := []) (mid := xs.flatten) (ps := ps) (va := []) (vm := us) (vc := vc) (by simpa using h) rfl hl
  cases q1
  have hd : F (some (.r r)) = [] := h.dead _ hst
  have hnd := h.nd (xs := [none, some (.r r)]) (by simp)
  refine ⟨fun x => if x = none then Fc ++ X else if x = some (.r r) then b :: Fm else F x, ?_⟩
  refine h.ghost [none, some (.r r)] (by simp) ?_ ?_ (by simp) (fun _ x => x) (fun _ _ => rfl) ?_ ?_ ?_ ?_ ?_ ?_
  · intro x hx
    simp only [List.mem_cons, reduceCtorEq, Option.some.injEq, List.not_mem_nil, or_false, false_or] at hx
    simp [upd, hx]
  · intro x hx
    simp only [List.mem_cons, List.not_mem_nil, or_false, not_or] at hx
    simp [hx.1, hx.2]
  · intro s c hs; simp at hs
  · intro r' c hs hc
    simp only [List.mem_cons, reduceCtorEq, Option.some.injEq, Res.r.injEq, List.not_mem_nil, or_false, false_or] at hs
    subst hs
    simp [upd] at hc
    subst hc
    exact ⟨hN, by simpa using RelO.some hρ q2 hone hrange hblk huni, hin⟩
  · intro _
    exact ⟨⟨Fc, by simp, q3⟩, n3⟩
  · intro x hx hn
    simp only [List.mem_cons, reduceCtorEq, Option.some.injEq, List.not_mem_nil, or_false, false_or] at hx
    subst hx
    simp [upd] at hn
  · simp only [List.flatMap_cons, List.flatMap_nil, List.append_nil, if_true, reduceCtorEq, if_false, hd, e0, List.nil_append] at hnd ⊢
    rw [List.nodup_iff_count] at hnd ⊢; intro t; have hnd := hnd t; simp only [List.count_append, List.count_cons, List.count_nil] at hnd ⊢; omega
  · intro x hx
    simp only [List.flatMap_cons, List.flatMap_nil, List.append_nil, if_true, reduceCtorEq, if_false, hd, e0, List.mem_append, List.mem_cons, List.nil_append] at hx ⊢
    grind
theorem RelDs.takeTo {ds : List D} {vs : List Value} {G : List Nat} (h : RelDs Z B w ds vs G) (n : Nat) : ∃ G1 G2, G = G1 ++ G2 ∧ RelDs Z B w (ds.take n) (vs.take n) G1 := by
  have hlen := h.length
  rcases Nat.lt_or_ge ds.length n with hlt | hge
  · rw [List.take_of_length_le (by omega), List.take_of_length_le (by omega)]
    exact ⟨G, [], by simp, h⟩
  · rw [← List.take_append_drop n ds] at h
    obtain ⟨va, vb, Fa, Fb, rfl, rfl, q1, q2⟩ := h.split
    refine ⟨Fa, Fb, rfl, ?_⟩
    have hl := q1.length
    have : va.length = n := by simp at hl; omega
    have e : (va ++ vb).take n = va := by rw [← this]; simp
    rw [e]
    exact q1
theorem load_ptr {m : Md} {t : TypeId} {ty : Ty} {cs : List D} {val : Value} {G : List Nat} {v : V} {R W : List Res} (hm : m ≠ .own) (g1 : tyOf P t = some ty)
    (ga : RelV Z B w ρ (.d (.ptr m cs)) val G) (hle : ty.size ≤ cs.length) (hr : Run (asVal ty.k.agg ((cs.take ty.size).map .d)) st v st' R W) :
    st' = st ∧ (∀ N, v.inN N) ∧ ∃ val', (Instr.loadAt t val).run P w = .ok val' w ∧ RelV Z B w ρ v val' [] := by
  cases ga with
  | d t1 t2 =>
    cases t2
    cases t1 with
    | @ptr _ b o _ us FF _ _ _ q1 q2 q3 q4 q5 q8 =>
      cases q8
      have := q5 hm
      subst this
      obtain ⟨G1, G2, e, k1⟩ := q1.takeTo ty.size
      obtain ⟨rfl, rfl⟩ : G1 = [] ∧ G2 = [] := by simpa using e.symm
      have hl := q1.length
      have hr2 : w.rangeAt b o (us.take ty.size) := by
        have := q2
        rw [← List.take_append_drop ty.size us, rangeAt_append] at this
        exact this.1
      obtain ⟨e1, e2, val', e3, e4⟩ := asVal_load g1 hr (RelVs.ofD (ρ := ρ) k1) (fun u hu => q1.one u (List.mem_of_mem_take hu)) (by simp; omega) hr2
      exact ⟨e1, fun N => e2 N (inNs_map_d _), val', e3, e4⟩
theorem ptr_val {m : Md} {cs : List D} {val : Value} {G : List Nat} (h : RelV Z B w ρ (.d (.ptr m cs)) val G) : ∃ ad, val = .pointer (some ad) := by
  cases h with
  | d t1 t2 => cases t2; cases t1; exact ⟨_, rfl⟩
theorem load_sound {x v : V} {val : Value} {nm : Nat} {t : TypeId} {vc : List Value} {R W : List Res} (r2 : Run (loadP P t nm x) st v st' R W) (hf : ∀ r, nm ≤ r → r < nm + 64 → ¬ N r)
    (h1 : SatF Γ Z B ρ F N st (x :: ps) (val :: vc) X tm w) :
    ∃ val' ρ' F', (∃ ad, val = .pointer (some ad)) ∧ (Instr.loadAt t val).run P w = .ok val' w ∧ SatF Γ Z B ρ' F' (Nx nm N) st' (v :: ps) (val' :: vc) X tm w := by
  obtain ⟨Ga, ga⟩ := h1.head
  unfold loadP at r2
  split at r2
  · -- an object
    rename_i r s i j
    obtain ⟨ty, st2, R3, W3, R4, W4, r3, r4, -, -⟩ := r2.bind_inv
    obtain ⟨g1, rfl⟩ := ofO_run r3
    cases r4 with
    | @get _ _ _ _ c _ _ _ c1 c2 =>
      dsimp only at c2
      split at c2
      · rename_i s' xs
        obtain ⟨row, st3, R5, W5, R6, W6, r5, r6, -, -⟩ := c2.bind_inv
        obtain ⟨g2, rfl⟩ := ofO_run r5
        cases r6 with
        | req g3 r7 =>
          obtain ⟨rfl, g4⟩ := g3
          cases ga with
          | @mp _ _ _ _ b oo _ _ _ t1 t2 =>
            cases t2
            obtain ⟨F2, h2⟩ := h1.drop
            obtain ⟨us, G, hF, hrel, h0, hrange, hblk, huni, hin⟩ := h2.objAt c1 t1
            have hrange' := hrange
            obtain ⟨u1, u2, u3, G1, G2, G3, rfl, rfl, hl1, e, k1, k2, k3, hr2⟩ := seg_of (n := ty.size) hrel hrange huni g2 g4
            have hl2 : u2.length = ty.size := by rw [← k2.length]; simp; omega
            have hone2 : ∀ u ∈ u2, u.oneCell' = true := fun u hu => h0 u (by simp [hu])
            split at r7
            · -- something in it is alone held: it gets a name
              cases r7 with
              | req g5 r8 =>
                obtain ⟨seg', st4, R7, W7, R8, W8, r9, r10, -, -⟩ := r8.bind_inv
                cases r10 with
                | req g6 r11 =>
                  cases r11 with
                  | set r12 =>
                    obtain ⟨hNr, hO, hinO⟩ := h2.obj _ _ c1
                    obtain ⟨rfl, hW, hlen'⟩ := outP_rw r9
                    have hseglen : ((row.drop j).take ty.size).length = ty.size := by simp; omega
                    rw [hseglen] at hW hlen'
                    obtain ⟨⟨Fp, p1, p2⟩, p3⟩ := h2.pend
                    -- the object is opened
                    obtain ⟨F3, f3, h3⟩ := h2.regroup (r := r) (ps' := ((xs.take i).flatten ++ row.take j) ++ ((row.drop j).take ty.size ++ ((row.drop (j + ty.size) ++ (xs.drop (i + 1)).flatten) ++ ps)))
                      (vals' := u1 ++ (u2 ++ (u3 ++ vc))) (X' := b :: X) (Fp' := G1 ++ (G2 ++ (G3 ++ Fp))) hF (RelVs.append k1 (RelVs.append k2 (RelVs.append k3 p2)))
                      (by
                        have hh : V.inNs N (((xs.take i).flatten ++ row.take j) ++ ((row.drop j).take ty.size ++ (row.drop (j + ty.size) ++ (xs.drop (i + 1)).flatten))) := by rw [← e]; exact inNss_flatten hin
                        simp only [inNs_append] at hh ⊢
                        exact ⟨hh.1, hh.2.1, hh.2.2, p3⟩)
                      (by rw [p1]; intro hh; rw [List.nodup_iff_count] at hh ⊢; intro t; have hh := hh t; simp only [List.count_append, List.count_cons, List.count_nil] at hh ⊢; omega)
                      (by rw [p1]; intro x hx; simp only [List.mem_append, List.mem_cons] at hx ⊢; grind)
                    have hnotr : ∀ x ∈ W7, x ≠ .r r := by
                      intro x hx e
                      obtain ⟨k, k1, k2, k3⟩ := hW x hx
                      rw [e] at k3
                      cases k3
                      exact hf _ (by omega) (by omega) hNr
                    obtain ⟨st5, r9', hsame⟩ := r9.local (upd st3 (.r r) none) (fun x hx => by
                      have : x ∈ W7 := by simpa using hx
                      simp [upd, hnotr x this])
                    obtain ⟨ρ4, F4, a4, h4⟩ := out_sound (pre := (xs.take i).flatten ++ row.take j) (ps := (row.drop (j + ty.size) ++ (xs.drop (i + 1)).flatten) ++ ps) r9' (by
                      intro k k1 k2
                      exact hf _ (by omega) (by omega)) h3
                    have hρr : ρ4 r = some ⟨b, oo, none⟩ := by
                      rw [a4 r (fun k k1 k2 e => hf _ (by omega) (by omega) (e ▸ hNr))]
                      exact t1
                    rw [hseglen] at h4
                    obtain ⟨Fa, Fm, Fc, e0, q1, q2, q3, n1, n2, n3⟩ := h4.partsAt k1.length.symm (by rw [hl2, hlen'])
                    have hFm : Fm = [] := lin_V q2 g6
                    subst hFm
                    obtain ⟨rfl, hn, val', e1, e2⟩ := asVal_load g1 r12 q2 hone2 hl2 hr2
                    have hset : (xs.set i (setSeg row j seg')).flatten = ((xs.take i).flatten ++ row.take j) ++ (seg' ++ (row.drop (j + ty.size) ++ (xs.drop (i + 1)).flatten)) := by
                      rw [flatten_set g2]; simp [setSeg, hlen']
                    have hrl : row.length = s := huni row (List.mem_of_getElem? g2)
                    have hst5 : st5 (.r r) = none := by
                      rw [r9'.frame _ (fun hh => hnotr _ hh rfl)]
                      simp [upd]
                    have hins : V.inNss (fun r => N r ∨ (nm + 0 ≤ r ∧ r < nm + 0 + ty.size)) (xs.set i (setSeg row j seg')) := inNss_iff.2 fun x hx => by
                      have hinrow : V.inNs N row := inNss_iff.1 hin row (List.mem_of_getElem? g2)
                      rcases List.mem_or_eq_of_mem_set hx with h1 | h1
                      · exact V.inNs_mono (fun _ y => .inl y) _ (inNss_iff.1 hin x h1)
                      · rw [h1]
                        simp only [setSeg]
                        rw [inNs_append, inNs_append]
                        rw [inNs_iff] at hinrow
                        exact ⟨⟨V.inNs_mono (fun _ y => .inl y) _ (inNs_iff.2 fun x hx => hinrow x (List.mem_of_mem_take hx)), n2⟩, V.inNs_mono (fun _ y => .inl y) _ (inNs_iff.2 fun x hx => hinrow x (List.mem_of_mem_drop hx))⟩
                    have hulen : (u1 ++ (u2 ++ u3)).length = (xs.set i (setSeg row j seg')).flatten.length := by
                      rw [hset]
                      have a1 := k1.length
                      have a3 := k3.length
                      simp only [List.length_append] at a1 a3 ⊢
                      omega
                    obtain ⟨F5, h5⟩ := SatF.close (r := r) (s := s) (o := oo) (xs := xs.set i (setSeg row j seg')) (ps := ps) (vc := vc) (X := X) (us := u1 ++ (u2 ++ u3)) (by rw [hset]; simpa using h4)
                      hulen (.inl hNr) hst5 hρr h0 hrange' (by rw [List.length_set]; exact hblk)
                      (mem_set_length huni (by rw [setSeg_length (by omega)]; exact hrl)) hins
                    have hfun : upd st5 (.r r) (some (.o s (xs.set i (setSeg row j seg')))) = upd st4 (.r r) (some (.o s (xs.set i (setSeg row j seg')))) := by
                      funext x
                      simp only [upd]
                      split
                      · rfl
                      · rename_i hx'
                        by_cases hxW : x ∈ W7
                        · exact hsame x hxW
                        · rw [r9'.frame x hxW, r9.frame x hxW]
                          simp [upd, hx']
                    rw [hfun] at h5
                    exact ⟨val', ρ4, _, ⟨_, rfl⟩, e1, (h5.push (by simpa using e2) (hn _ n2)).weakN (fun r' hr' => hr'.imp id (fun hh => by omega))⟩
            · rename_i hlin
              have hG2 : G2 = [] := lin_V k2 (by simpa using hlin)
              subst hG2
              obtain ⟨rfl, hn, val', e1, e2⟩ := asVal_load g1 r7 k2 hone2 hl2 hr2
              refine ⟨val', ρ, _, ⟨_, rfl⟩, e1, (h2.push (by simpa using e2) (hn N ?_)).toNx⟩
              have hinrow : V.inNs N row := inNss_iff.1 hin row (List.mem_of_getElem? g2)
              rw [inNs_iff] at hinrow ⊢
              exact fun x hx => hinrow x (List.mem_of_mem_drop (List.mem_of_mem_take hx))
      · cases c2
  · obtain ⟨ty, st2, R3, W3, R4, W4, r3, r4, -, -⟩ := r2.bind_inv
    obtain ⟨g1, rfl⟩ := ofO_run r3
    cases r4 with
    | req g3 r7 =>
      obtain ⟨rfl, hn, val', e1, e2⟩ := load_ptr (by simp) g1 ga g3 r7
      obtain ⟨F2, h2⟩ := h1.drop
      exact ⟨val', ρ, _, ptr_val ga, e1, (h2.push e2 (hn N)).toNx⟩
  · obtain ⟨ty, st2, R3, W3, R4, W4, r3, r4, -, -⟩ := r2.bind_inv
    obtain ⟨g1, rfl⟩ := ofO_run r3
    cases r4 with
    | req g3 r7 =>
      obtain ⟨rfl, hn, val', e1, e2⟩ := load_ptr (by simp) g1 ga g3 r7
      obtain ⟨F2, h2⟩ := h1.drop
      exact ⟨val', ρ, _, ptr_val ga, e1, (h2.push e2 (hn N)).toNx⟩
  · cases r2
theorem load_ok {o : Oper} {nm : Nat} {v : V} {R W : List Res} {t : TypeId} {x : Operand} (ho : o.op = .load t x) (hr : Run ((fetchP x).bind (loadP P t nm)) st v st' R W) : OpOk P o nm st v st' := by
  rintro Γ N a w ⟨Z, B, ρ, F, h⟩ hf K Q hk
  obtain ⟨va, st1, R1, W1, R2, W2, r1, r2, -, -⟩ := hr.bind_inv
  obtain ⟨F1, h1⟩ := fetch_sound r1 (rfl : a.tmps = a.tmps) h
  obtain ⟨val', ρ', F', _, e1, h2⟩ := load_sound r2 hf h1
  refine wp_value (w' := w) (val := val') ?_ (hk _ _ h2.satP)
  simp [execOp, ho, e1]
end
section
variable {P : Program} {Γ : Ctx} {Z B : Zone} {ρ : Names} {F : Ix → List Nat} {N : Nat → Prop} {st st' : St} {ps : List V} {vals : List Value} {X : List Nat} {tm : Array Value} {w : World}
theorem run_storeAt_any (w : World) (b o : Nat) (t : TypeId) (v : Value) (n : Nat) (hi : (P.info? t).map (·.size) = some n) (hn : v.cells.toList.length = n) (ht : w.there b o n) (h1 : ∀ u ∈ v.cells.toList, u.oneCell' = true) :
    (Instr.storeAt t (.pointer (some ⟨b, o, none⟩)) v).run P w = .ok () (w.setCells b o v.cells.toList) := by
  have hst := run_storeCells_cells (P := P) b o v.cells.toList 0 w (fun j hj => by simpa using (ht j (by omega)).1) (fun j hj => by simpa using (ht j (by omega)).2) h1
  simp only [Nat.add_zero] at hst
  cases hq : P.info? t with
  | none => simp [hq] at hi
  | some i =>
    have hs : v.cells.size = i.size := by simp [hq] at hi; simp at hn; omega
    simp [Instr.storeAt, Instr.sureAddr, storeVar, sizeOf, typeInfo, hq, hs, hst]
theorem store_ok {o : Oper} {nm : Nat} {v : V} {R W : List Res} {t : TypeId} {x y : Operand} (ho : o.op = .store t x y) (hr : Run ((fetchP y).bind fun v => (fetchP x).bind (storeP P t v)) st v st' R W) : OpOk P o nm st v st' := by
  rintro Γ N a w ⟨Z, B, ρ, F, h⟩ hf K Q hk
  obtain ⟨va, st1, R1, W1, R2, W2, r1, r2, -, -⟩ := hr.bind_inv
  obtain ⟨vp, st2, R3, W3, R4, W4, r3, r4, -, -⟩ := r2.bind_inv
  obtain ⟨F1, h1⟩ := fetch_sound r1 (rfl : a.tmps = a.tmps) h
  obtain ⟨F2, h2⟩ := fetch_sound r3 (rfl : a.tmps = a.tmps) h1
  obtain ⟨Ga, ga⟩ := h2.head
  unfold storeP at r4
  split at r4
  · rename_i r s i j
    obtain ⟨ty, st3, R5, W5, R6, W6, r5, r6, -, -⟩ := r4.bind_inv
    obtain ⟨g1, rfl⟩ := ofO_run r5
    obtain ⟨cs, st4, R7, W7, R8, W8, r7, r8, -, -⟩ := r6.bind_inv
    obtain ⟨F3, h3, hone, hlen⟩ := cells_sound (pre := [.mp r s i j]) (va := [a.eval x]) (ps := []) (vc := []) r7 h2 rfl
    obtain ⟨F4, h4⟩ := SatF.drop (v := .mp r s i j) (val := a.eval x) (ps := cs ++ []) (vals := (a.eval y).cells.toList ++ []) (by simpa using h3)
    cases r8 with
    | @get _ _ _ _ c _ _ _ c1 c2 =>
      dsimp only at c2
      split at c2
      · rename_i s' xs
        obtain ⟨row, st5, R9, W9, R10, W10, r9, r10, -, -⟩ := c2.bind_inv
        obtain ⟨g2, rfl⟩ := ofO_run r9
        cases r10 with
        | req g3 r11 =>
          obtain ⟨rfl, g4, g5⟩ := g3
          cases r11 with
          | set r12 =>
            cases r12
            generalize hx : a.eval x = val at ga
            cases ga with
            | @mp _ _ _ _ b oo _ _ _ t1 t2 =>
              cases t2
              obtain ⟨d, i', z, hu, hi, hz, rfl⟩ := tyOf_spec g1
              obtain ⟨hthere, F5, h5⟩ := h4.write c1 t1 g2 g4 hone hlen
              have hrun := run_storeAt_any (P := P) w b (oo + i * s + j) t (a.eval y) i'.size (by simp [hi]) (by simp at g5; omega) (by simpa [hlen, g5] using hthere) hone
              refine wp_skip' (w' := w.setCells b (oo + i * s + j) (a.eval y).cells.toList) ?_ (hk undef _ (((h5.push (v := .tup []) (val := undef) (.tup .nil .nil) trivial).toNx).satP))
              simp [execOp, ho, hx, hrun]
      · cases c2
  · cases r4
theorem SatF.pushPlain (us : List Value) (h1 : ∀ u ∈ us, u.oneCell' = true) (h : SatF Γ Z B ρ F N st ps vals X tm w) : SatF Γ Z B ρ F N st ((us.map fun u => V.d (.p u)) ++ ps) (us ++ vals) X tm w := by
  induction us with
  | nil => exact h
  | cons u us ih => exact (ih fun x hx => h1 x (by simp [hx])).push (.d (.p (h1 u (by simp)) .nil) .nil) trivial
theorem SatF.newVar {cs : List V} {us vc : List Value} {nm : Nat} {ty : TypeId} (h : SatF Γ Z B ρ F N st (cs ++ ps) (us ++ vc) X tm w) (hl : us.length = cs.length) (hone : ∀ u ∈ us, u.oneCell' = true) (hnm : ¬ N nm) :
    ∃ ρ' F', SatF Γ Z B ρ' F' (fun r => N r ∨ r = nm) (upd st (.r nm) (some (.o cs.length [cs]))) (.mp nm cs.length 0 0 :: ps) (.pointer (some ⟨w.heap.size, 0, none⟩) :: vc) X tm (w.alloc (.cells us.toArray ty)) := by
  obtain ⟨F1, h1⟩ := h.fresh (rest := #[]) (ty := ty) (v := .arr cs.length [cs]) (val := .slice (some ⟨w.heap.size, 0, none⟩) 1 1) hl
    (by
      intro w' G _ hG hr hb
      have := RelVs.arr (Z := Z) (B := B) (w := w') (ρ := ρ) (s := cs.length) (b := w.heap.size) (xs := [cs]) (us := us) (F := G) (by simpa using hG) hone hr (hb.le (by simp [hl])) (by simp) .nil
      simpa using this) (fun hn => ⟨hn, trivial⟩)
  rw [Array.append_empty] at h1
  have hrun : Run (nameP nm (.arr cs.length [cs])) st (.sl nm cs.length 0 1) (upd st (.r nm) (some (.o cs.length [cs]))) [] [.r nm] := .set .ret
  obtain ⟨ρ', F2, a2, h2⟩ := name_sound (pre := []) hrun hnm h1
  obtain ⟨G, H, e, g1, g2, n1, n2⟩ := SatF.headF h2
  have hρ : ρ' nm = some ⟨w.heap.size, 0, none⟩ := by
    cases g1 with
    | sl t1 t2 =>
      rcases t1 with ⟨e1, _⟩ | ⟨b, o, e1, e2, _, _⟩
      · cases e1
      · simp only [Nat.zero_mul, Nat.add_zero, Option.some.injEq, Addr.mk.injEq, and_true] at e2
        obtain ⟨rfl, rfl⟩ := e2
        exact e1
  obtain ⟨F3, h3⟩ := SatF.turnF h2 e g2 (v' := .mp nm cs.length 0 0) (val' := .pointer (some ⟨w.heap.size, 0, none⟩)) (G' := []) (by
    have := RelVs.mp (Z := Z) (B := B) (w := w.alloc (.cells us.toArray ty)) (ρ := ρ') (s := cs.length) (i := 0) (j := 0) hρ .nil
    simpa using this) (by simp) (.inr rfl) n2
  exact ⟨ρ', F3, h3⟩
theorem alloc_ok {o : Oper} {nm : Nat} {v : V} {R W : List Res} {t : TypeId} (ho : o.op = .alloc t) (hr : Run (allocP P t nm) st v st' R W) : OpOk P o nm st v st' := by
  rintro Γ N a w ⟨Z, B, ρ, F, h⟩ hf K Q hk
  unfold allocP at hr
  obtain ⟨ty, st1, R1, W1, R2, W2, r1, r2, -, -⟩ := hr.bind_inv
  obtain ⟨g1, rfl⟩ := ofO_run r1
  obtain ⟨d, i, z, hu, hi, hz, rfl⟩ := tyOf_spec g1
  cases r2 with
  | req g2 r3 =>
    cases r3 with
    | set r4 =>
      cases r4
      have h1 := SatF.pushPlain z.cells.toList g2 h
      obtain ⟨ρ', F2, h2⟩ := h1.newVar (nm := nm) (ty := t) (by simp) g2 (hf nm (by omega) (by omega))
      refine wp_value (w' := w.alloc (.cells z.cells t)) (val := .pointer (some ⟨w.heap.size, 0, none⟩)) ?_ (hk _ _ ?_)
      · simp [execOp, ho, Instr.alloc, zeroValue, typeInfo, hi, hz, newVar, newRow]
      · have := (h2.weakN Nx_one).satP
        simpa [zeroRow, Function.comp_def] using this
theorem box_ok {o : Oper} {nm : Nat} {v : V} {R W : List Res} {t : TypeId} {x : Operand} (ho : o.op = .box t x) (hr : Run ((fetchP x).bind (boxP nm)) st v st' R W) : OpOk P o nm st v st' := by
  rintro Γ N a w ⟨Z, B, ρ, F, h⟩ hf K Q hk
  obtain ⟨va, st1, R1, W1, R2, W2, r1, r2, -, -⟩ := hr.bind_inv
  obtain ⟨F1, h1⟩ := fetch_sound r1 (rfl : a.tmps = a.tmps) h
  unfold boxP at r2
  obtain ⟨cs, st2, R3, W3, R4, W4, r3, r4, -, -⟩ := r2.bind_inv
  obtain ⟨F2, h2, hone, hlen⟩ := cells_sound (pre := []) (va := []) (ps := []) (vc := []) r3 h1 rfl
  cases r4 with
  | set r5 =>
    cases r5
    obtain ⟨ρ', F3, h3⟩ := SatF.newVar (nm := nm) (ty := t) (ps := []) (vc := []) h2 hlen hone (hf nm (by omega) (by omega))
    refine wp_value (w' := w.alloc (.cells (a.eval x).cells t)) (val := .pointer (some ⟨w.heap.size, 0, none⟩)) ?_ (hk _ _ ?_)
    · simp [execOp, ho, Instr.box, newVar, newRow]
    · have := (h3.weakN Nx_one).satP
      simpa using this
theorem fill_step (cells : Array Value) (off : Nat) (v : Array Value) (h : off + v.size ≤ cells.size) :
    (v.zipIdx.foldl (fun cs (c, j) => cs.setIfInBounds (off + j) c) cells).toList = setSeg cells.toList off v.toList := by
  have key : ∀ (l : List Value) (k : Nat) (cells : Array Value), off + k + l.length ≤ cells.size →
      ((l.zipIdx k).foldl (fun cs (x : Value × Nat) => cs.setIfInBounds (off + x.2) x.1) cells).toList = setSeg cells.toList (off + k) l := by
    intro l
    induction l with
    | nil => intro k cells hk; simp [setSeg]
    | cons x l ih =>
      intro k cells hk
      simp only [List.zipIdx_cons, List.foldl_cons]
      simp only [List.length_cons] at hk
      rw [ih (k + 1) _ (by simp; omega)]
      simp only [setSeg, Array.toList_setIfInBounds, List.length_cons]
      have hlt : off + k < cells.toList.length := by simp; omega
      apply List.ext_getElem?
      intro m
      simp only [List.getElem?_append, List.length_append, List.length_take, List.length_set, List.length_cons, List.getElem?_take, List.getElem?_drop, List.getElem?_set]
      grind
  have := key v.toList 0 cells (by simpa using h)
  simp only [Nat.add_zero] at this
  rw [← this, ← Array.foldl_toList]
  congr 1
  simp
theorem RelVs.cut {ds : List V} {vs : List Value} {G : List Nat} (h : RelVs Z B w ρ ds vs G) (n : Nat) : ∃ G1 G2, G = G1 ++ G2 ∧ RelVs Z B w ρ (ds.take n) (vs.take n) G1 ∧ RelVs Z B w ρ (ds.drop n) (vs.drop n) G2 := by
  have hlen := h.length
  rcases Nat.lt_or_ge ds.length n with hlt | hge
  · rw [List.take_of_length_le (by omega), List.take_of_length_le (by omega), List.drop_of_length_le (by omega), List.drop_of_length_le (by omega)]
    exact ⟨G, [], by simp, h, .nil⟩
  · rw [← List.take_append_drop n ds] at h
    obtain ⟨va, vb, Fa, Fb, rfl, rfl, q1, q2⟩ := h.split
    have hl := q1.length
    have : va.length = n := by simp at hl; omega
    have e : (va ++ vb).take n = va := by rw [← this]; simp
    have e' : (va ++ vb).drop n = vb := by rw [← this]; simp
    rw [e, e']
    exact ⟨Fa, Fb, rfl, q1, q2⟩
theorem setSeg_rel {cells cs : List V} {us vs : List Value} {G Gc : List Nat} {off : Nat} (h : RelVs Z B w ρ cells us G) (k : RelVs Z B w ρ cs vs Gc) :
    ∃ G', RelVs Z B w ρ (setSeg cells off cs) (setSeg us off vs) G' ∧ (∀ x, G'.count x ≤ G.count x + Gc.count x) := by
  obtain ⟨G1, G2, rfl, h1, h2⟩ := h.cut off
  obtain ⟨G3, G4, rfl, h3, h4⟩ := h2.cut cs.length
  have hl := k.length
  refine ⟨G1 ++ Gc ++ G4, ?_, fun x => by simp only [List.count_append]; omega⟩
  have := RelVs.append (RelVs.append h1 k) h4
  rw [List.drop_drop, List.drop_drop] at this
  simpa [setSeg, hl] using this
theorem setSeg_inNs {cells cs : List V} {off : Nat} (h : V.inNs N cells) (k : V.inNs N cs) : V.inNs N (setSeg cells off cs) := by
  simp only [setSeg]
  rw [inNs_append, inNs_append]
  rw [inNs_iff] at h
  exact ⟨⟨inNs_iff.2 fun x hx => h x (List.mem_of_mem_take hx), k⟩, inNs_iff.2 fun x hx => h x (List.mem_of_mem_drop hx)⟩
theorem put_sound {place : Nat → Option (Nat × Nat)} {a : Act} (ha : a.tmps = tm) {vc : List Value} : ∀ (parts : List (Nat × Operand)) (cells cs : List V) (st st' : St) (us : List Value) (F : Ix → List Nat) (R W : List Res),
    Run (putParts place parts cells) st cs st' R W → SatF Γ Z B ρ F N st (cells ++ ps) (us ++ vc) X tm w → us.length = cells.length → (∀ u ∈ us, u.oneCell' = true) →
    ∃ us' F', Instr.fill place us.toArray (parts.map fun (i, x) => (i, a.eval x)) = some us'.toArray ∧ SatF Γ Z B ρ F' N st' (cs ++ ps) (us' ++ vc) X tm w ∧ us'.length = cs.length ∧ (∀ u ∈ us', u.oneCell' = true) ∧ cs.length = cells.length
  | [], cells, cs, st, st', us, F, R, W, hr, h, hl, h1 => by
    simp only [putParts] at hr
    cases hr
    exact ⟨us, F, by simp [Instr.fill], h, hl, h1, rfl⟩
  | (i, x) :: rest, cells, cs, st, st', us, F, R, W, hr, h, hl, h1 => by
    simp only [putParts] at hr
    obtain ⟨v, st1, R1, W1, R2, W2, r1, r2, -, -⟩ := hr.bind_inv
    obtain ⟨cs1, st2, R3, W3, R4, W4, r3, r4, -, -⟩ := r2.bind_inv
    obtain ⟨p, st3, R5, W5, R6, W6, r5, r6, -, -⟩ := r4.bind_inv
    obtain ⟨g1, rfl⟩ := ofO_run r5
    cases r6 with
    | req g2 r7 =>
      obtain ⟨g2, g3⟩ := g2
      obtain ⟨F1, hf1⟩ := fetch_sound r1 ha h
      obtain ⟨F2, hf2, hone, hlen⟩ := cells_sound (pre := []) (va := []) (ps := cells ++ ps) (vc := us ++ vc) r3 hf1 rfl
      obtain ⟨Fa, Fm, Fc, e0, q1, q2, q3, n1, n2, n3⟩ := SatF.partsAt (pre := cs1) (mid := cells) (ps := ps) (va := (a.eval x).cells.toList) (vm := us) (vc := vc) (by simpa using hf2) hlen hl
      obtain ⟨G', k1, k2⟩ := setSeg_rel (off := p.1) q2 q1
      have hmem : ∀ x, x ∈ G' → x ∈ Fm ∨ x ∈ Fa := fun x hx => by
        have h1 := List.count_pos_iff.2 hx
        have h2 := k2 x
        rcases Nat.eq_zero_or_pos (Fm.count x) with h3 | h3
        · exact .inr (List.count_pos_iff.1 (by omega))
        · exact .inl (List.count_pos_iff.1 h3)
      obtain ⟨F3, _, hf3⟩ := hf2.rehand (ps' := setSeg cells p.1 cs1 ++ ps) (vals' := setSeg us p.1 (a.eval x).cells.toList ++ vc) (X' := X) (Fp' := G' ++ Fc) (RelVs.append k1 q3)
        (by rw [inNs_append]; exact ⟨setSeg_inNs n2 n1, n3⟩)
        (by rw [e0]; intro hh; rw [List.nodup_iff_count] at hh ⊢; intro t; have hh := hh t; have := k2 t; simp only [List.count_append, List.count_cons, List.count_nil] at hh ⊢; omega)
        (by rw [e0]; intro x hx; simp only [List.mem_append, List.mem_cons] at hx ⊢; have := hmem x; grind)
      have hsl : (setSeg us p.1 (a.eval x).cells.toList).length = us.length := setSeg_length (by omega)
      have hcl : (setSeg cells p.1 cs1).length = cells.length := setSeg_length (by omega)
      obtain ⟨us', F4, e1, hf4, e2, e3, e4⟩ := put_sound ha rest _ cs _ _ (setSeg us p.1 (a.eval x).cells.toList) F3 _ _ r7 hf3 (by rw [hsl, hcl, hl])
        (by
          intro u hu
          simp only [setSeg, List.mem_append] at hu
          rcases hu with (hu | hu) | hu
          · exact h1 u (List.mem_of_mem_take hu)
          · exact hone u hu
          · exact h1 u (List.mem_of_mem_drop hu))
      refine ⟨us', F4, ?_, hf4, e2, e3, by rw [e4, hcl]⟩
      have hsz : (a.eval x).cells.size = cs1.length := by simpa using hlen
      have hfill := fill_step us.toArray p.1 (a.eval x).cells (by simp; omega)
      have harr : (Array.foldl (fun cs (x : Value × Nat) => cs.setIfInBounds (p.1 + x.2) x.1) us.toArray (a.eval x).cells.zipIdx) = (setSeg us p.1 (a.eval x).cells.toList).toArray := by
        apply Array.ext'
        simpa using hfill
      obtain ⟨off, size⟩ := p
      simp only [List.map_cons, Instr.fill, g1]
      rw [if_neg]
      · rw [harr]; exact e1
      · simp at g2 g3 hsz ⊢
        omega
theorem places_of {fa : List Field} {pl : List (Nat × Nat)} (h : structPlaces P (fa.map fun f => (f.offset, f.type)) = some pl) : fa.mapM (fun f => (P.info? f.type).map fun i => (f.offset, i.size)) = some pl := by
  induction fa generalizing pl with
  | nil => simp [structPlaces] at h; subst h; rfl
  | cons f fa ih =>
    simp only [List.map_cons, structPlaces, Option.bind_eq_some_iff, Option.map_eq_some_iff] at h
    obtain ⟨te, h1, pl', h2, rfl⟩ := h
    obtain ⟨d, i, z, hu, hi, hz, rfl⟩ := tyOf_spec h1
    rw [List.mapM_cons, ih h2]
    simp [hi]
theorem chunks_spec (s : Nat) : ∀ (n : Nat) (l : List V), l.length = n * s → (chunks s n l).flatten = l ∧ (chunks s n l).length = n ∧ ∀ x ∈ chunks s n l, x.length = s
  | 0, l, h => by simp at h; subst h; simp [chunks]
  | n + 1, l, h => by
    have h' : l.length = n * s + s := by rw [h, Nat.add_mul, Nat.one_mul]
    obtain ⟨a1, a2, a3⟩ := chunks_spec s n (l.drop s) (by simp; omega)
    simp only [chunks]
    refine ⟨by simp [a1], by simp [a2], ?_⟩
    intro x hx
    rcases List.mem_cons.1 hx with rfl | hx
    · simp; omega
    · exact a3 x hx
theorem build_ok {o : Oper} {nm : Nat} {v : V} {R W : List Res} {t : TypeId} {parts : Array (Nat × Operand)} (ho : o.op = .build t parts) (hr : Run (buildP P t parts.toList) st v st' R W) : OpOk P o nm st v st' := by
  rintro Γ N a w ⟨Z, B, ρ, F, h⟩ hf K Q hk
  unfold buildP at hr
  obtain ⟨ty, st1, R1, W1, R2, W2, r1, r2, -, -⟩ := hr.bind_inv
  obtain ⟨g1, rfl⟩ := ofO_run r1
  obtain ⟨d, i, z, hu, hi, hz, rfl⟩ := tyOf_spec g1
  cases r2 with
  | req g2 r3 =>
    have h1 := SatF.pushPlain z.cells.toList g2 h
    have hz' : (zeroRow { k := TyK.of d, size := i.size, bytes := i.bytes, zero := z.cells.toList }).map V.d = z.cells.toList.map fun u => V.d (.p u) := by simp [zeroRow, Function.comp_def]
    have fin : ∀ (place : Nat → Option (Nat × Nat)) (cs : List V) (R W : List Res), Run (putParts place parts.toList ((zeroRow { k := TyK.of d, size := i.size, bytes := i.bytes, zero := z.cells.toList }).map V.d)) st1 cs st' R W →
        v = .agg cs → (∀ us' : List Value, Instr.fill place z.cells (parts.toList.map fun (i, x) => (i, a.eval x)) = some us'.toArray → (execOp a.eval o).run P w = .ok (.value (.agg us'.toArray)) w) → o.wp P a w K Q := by
      intro place cs R W rr hv hrun
      subst hv
      rw [hz'] at rr
      obtain ⟨us', F', e1, h2, e2, e3, e4⟩ := put_sound (a := a) rfl (ps := []) (vc := []) parts.toList _ cs _ _ z.cells.toList F R W rr (by simpa using h1) (by simp) g2
      obtain ⟨⟨Fp, p1, p2⟩, p3⟩ := h2.pend
      simp only [List.append_nil] at p2 p3
      obtain ⟨F2, _, h3⟩ := h2.rehand (ps' := [.agg cs]) (vals' := [.agg us'.toArray]) (X' := []) (Fp' := Fp ++ []) (RelVs.agg p2 e3 .nil) ⟨p3, trivial⟩ (by rw [p1]; simp) (by rw [p1]; simp)
      exact wp_value (hrun us' (by simpa using e1)) (hk _ _ h3.toNx.satP)
    dsimp only at r3
    split at r3
    · rename_i fs hk'
      obtain ⟨fa, rfl, rfl⟩ := ofK_struct hk'
      obtain ⟨pl, st2, R3, W3, R4, W4, r4, r5, -, -⟩ := r3.bind_inv
      obtain ⟨g3, rfl⟩ := ofO_run r4
      obtain ⟨cs, st3, R5, W5, R6, W6, r6, r7, -, -⟩ := r5.bind_inv
      cases r7
      refine fin _ cs R5 W5 r6 rfl (fun us' hfill => ?_)
      have hpl := run_places (P := P) w fa.toList pl (places_of g3)
      have hfill' : Instr.fill (fun x => pl[x]?) z.cells (List.map (fun a_1 => (a_1.fst, a.eval a_1.snd)) parts.toList) = some us'.toArray := by simpa using hfill
      simp [execOp, ho, Instr.build, zeroValue, typeInfo, hi, hz, run_underlying hu, Array.mapM_eq_mapM_toList, hpl, hfill']
    · rename_i n e hk'
      have := ofK_array hk'; subst this
      obtain ⟨te, st2, R3, W3, R4, W4, r4, r5, -, -⟩ := r3.bind_inv
      obtain ⟨g3, rfl⟩ := ofO_run r4
      obtain ⟨d', i', z', hu', hi', hz', rfl⟩ := tyOf_spec g3
      obtain ⟨cs, st3, R5, W5, R6, W6, r6, r7, -, -⟩ := r5.bind_inv
      cases r7
      refine fin _ cs R5 W5 r6 rfl (fun us' hfill => ?_)
      have hfill' : Instr.fill (fun i => some (i * i'.size, i'.size)) z.cells (List.map (fun a_1 => (a_1.fst, a.eval a_1.snd)) parts.toList) = some us'.toArray := by simpa using hfill
      simp [execOp, ho, Instr.build, zeroValue, sizeOf, typeInfo, hi, hz, hi', run_underlying hu, hfill']
    · cases r3
theorem zeros_toList (zero : Array Value) (n s : Nat) (hs : zero.size = s) : ((Array.range (n * s)).map (zero[· % zero.size]!)).toList = (List.replicate n zero.toList).flatten := by
  subst hs
  rw [Array.toList_map, Array.toList_range]
  induction n with
  | zero => simp
  | succ n ih =>
    rw [Nat.add_mul, Nat.one_mul, List.range_add, List.map_append, ih, List.replicate_succ', List.flatten_append]
    congr 1
    simp only [List.flatten_cons, List.flatten_nil, List.append_nil, List.map_map]
    apply List.ext_getElem?
    intro m
    simp only [List.getElem?_map]
    rcases Nat.lt_or_ge m zero.size with h | h
    · rw [List.getElem?_range h]
      simp only [Option.map_some, Function.comp]
      rw [Array.getElem?_toList, Array.getElem?_eq_getElem h]
      congr 1
      rw [Nat.add_comm, Nat.add_mul_mod_self_right, Nat.mod_eq_of_lt h]
      simp [h]
    · rw [List.getElem?_eq_none (by simpa using h)]
      simp [h]
theorem buildSlice_ok {o : Oper} {nm : Nat} {v : V} {R W : List Res} {t : TypeId} {len : Nat} {parts : Array (Nat × Operand)} (ho : o.op = .buildSlice t len parts)
    (hr : Run (buildSliceP P t len parts.toList) st v st' R W) : OpOk P o nm st v st' := by
  rintro Γ N a w ⟨Z, B, ρ, F, h⟩ hf K Q hk
  unfold buildSliceP at hr
  obtain ⟨ty, st1, R1, W1, R2, W2, r1, r2, -, -⟩ := hr.bind_inv
  obtain ⟨g1, rfl⟩ := ofO_run r1
  obtain ⟨d, i, z, hu, hi, hz, rfl⟩ := tyOf_spec g1
  dsimp only at r2
  split at r2
  · rename_i e hk'
    have := ofK_slice hk'; subst this
    obtain ⟨te, st2, R3, W3, R4, W4, r3, r4, -, -⟩ := r2.bind_inv
    obtain ⟨g2, rfl⟩ := ofO_run r3
    obtain ⟨d', i', z', hu', hi', hz', rfl⟩ := tyOf_spec g2
    cases r4 with
    | req g3 r5 =>
      obtain ⟨g4, g5, g6⟩ := g3
      obtain ⟨cs, st3, R5, W5, R6, W6, r6, r7, -, -⟩ := r5.bind_inv
      cases r7
      dsimp only at g4 g5 g6 r6
      have hone0 : ∀ u ∈ (List.replicate len z'.cells.toList).flatten, u.oneCell' = true := by
        intro u hu
        obtain ⟨l, hl, hu⟩ := List.mem_flatten.1 hu
        rw [(List.mem_replicate.1 hl).2] at hu
        exact g6 u hu
      have h1 := SatF.pushPlain _ hone0 h
      have e1 : (List.replicate len (z'.cells.toList.map fun v => V.d (.p v))).flatten = (List.replicate len z'.cells.toList).flatten.map fun u => V.d (.p u) := by
        simp [List.map_flatten]
      rw [e1] at r6
      obtain ⟨us', F', e2, h2, e3, e4, e5⟩ := put_sound (a := a) rfl (ps := []) (vc := []) parts.toList _ cs _ _ _ F R5 W5 r6 (by simpa using h1) (by simp) hone0
      have hcl : cs.length = len * i'.size := by rw [e5]; simp at g5 ⊢; rw [g5]
      obtain ⟨ch1, ch2, ch3⟩ := chunks_spec i'.size len cs hcl
      obtain ⟨F3, h3⟩ := h2.fresh (rest := #[]) (ty := e) (v := .arr i'.size (chunks i'.size len cs)) (val := .slice (some ⟨w.heap.size, 0, none⟩) len len) e3
        (by
          intro w' G _ hG hr hb
          have := RelVs.arr (Z := Z) (B := B) (w := w') (ρ := ρ) (s := i'.size) (b := w.heap.size) (xs := chunks i'.size len cs) (us := us') (F := G) (by rw [ch1]; exact hG) e4 hr (hb.le (by rw [ch2]; simp [e3, hcl])) ch3 .nil
          rw [ch2] at this
          simpa using this) (fun hn => by
          have : V.inNss N (chunks i'.size len cs) := inNss_iff.2 fun x hx => inNs_iff.2 fun y hy => inNs_iff.1 hn y (by rw [← ch1]; exact List.mem_flatten.2 ⟨x, hx, hy⟩)
          exact this)
      rw [Array.append_empty] at h3
      have hzl := zeros_toList z'.cells len i'.size (by simpa using g5)
      have hzero : (if len * i'.size = 0 then (#[] : Array Value) else z'.cells) = (if len * i'.size = 0 then (#[] : Array Value) else z'.cells) := rfl
      refine wp_value (w' := w.alloc (.cells us'.toArray e)) (val := .slice (some ⟨w.heap.size, 0, none⟩) len len) ?_ (hk _ _ h3.toNx.satP)
      have hlim : ¬ (16777216 < len * i'.size) := by omega
      have hfill : Instr.fill (fun i => some (i * i'.size, i'.size)) ((Array.range (len * i'.size)).map (z'.cells[· % z'.cells.size]!)) (List.map (fun a_1 => (a_1.fst, a.eval a_1.snd)) parts.toList) = some us'.toArray := by
        have : (Array.range (len * i'.size)).map (z'.cells[· % z'.cells.size]!) = ((List.replicate len z'.cells.toList).flatten).toArray := by
          apply Array.ext'; rw [hzl]
        rw [this]
        simpa using e2
      by_cases h0 : len * i'.size = 0
      · have er : Array.range 0 = #[] := rfl
        have hfill0 : Instr.fill (fun i => some (i * i'.size, i'.size)) (#[] : Array Value) (List.map (fun a_1 => (a_1.fst, a.eval a_1.snd)) parts.toList) = some us'.toArray := by
          rw [h0, er] at hfill
          simpa using hfill
        simp [execOp, ho, Instr.buildSlice, run_underlying hu, sizeOf, typeInfo, hi', h0, newRow, er, hfill0]
      · simp [execOp, ho, Instr.buildSlice, run_underlying hu, sizeOf, typeInfo, hi', hlim, h0, zeroValue, hz', newRow, hfill]
  · cases r2
theorem makeSlice_ok {o : Oper} {nm : Nat} {v : V} {R W : List Res} {t : TypeId} {x y : Operand} (ho : o.op = .makeSlice t x y)
    (hr : Run ((fetchP x).bind fun a => (fetchP y).bind fun b => (Prog.ofO a.asInt).bind fun l => (Prog.ofO b.asInt).bind fun c => makeSliceP P t l c) st v st' R W) : OpOk P o nm st v st' := by
  rintro Γ N a w ⟨Z, B, ρ, F, h⟩ hf K Q hk
  obtain ⟨vx, st1, R1, W1, R2, W2, r1, r2, -, -⟩ := hr.bind_inv
  obtain ⟨vy, st2, R3, W3, R4, W4, r3, r4, -, -⟩ := r2.bind_inv
  obtain ⟨l, st3, R5, W5, R6, W6, r5, r6, -, -⟩ := r4.bind_inv
  obtain ⟨gl, rfl⟩ := ofO_run r5
  obtain ⟨c, st4, R7, W7, R8, W8, r7, r8, -, -⟩ := r6.bind_inv
  obtain ⟨gc, rfl⟩ := ofO_run r7
  obtain ⟨F1, h1⟩ := fetch_sound r1 (rfl : a.tmps = a.tmps) h
  obtain ⟨F2, h2⟩ := fetch_sound r3 (rfl : a.tmps = a.tmps) h1
  obtain ⟨Gy, gy⟩ := h2.head
  obtain ⟨F3, h3⟩ := h2.drop
  obtain ⟨Gx, gx⟩ := h3.head
  obtain ⟨F4, h4⟩ := h3.drop
  obtain ⟨kx, ex⟩ := asInt_val gl gx
  obtain ⟨ky, ey⟩ := asInt_val gc gy
  unfold makeSliceP at r8
  obtain ⟨ty, st5, R9, W9, R10, W10, r9, r10, -, -⟩ := r8.bind_inv
  obtain ⟨g1, rfl⟩ := ofO_run r9
  obtain ⟨d, i, z, hu, hi, hz, rfl⟩ := tyOf_spec g1
  dsimp only at r10
  split at r10
  · rename_i e hk'
    have := ofK_slice hk'; subst this
    obtain ⟨te, st6, R11, W11, R12, W12, r11, r12, -, -⟩ := r10.bind_inv
    obtain ⟨g2, rfl⟩ := ofO_run r11
    obtain ⟨d', i', z', hu', hi', hz', rfl⟩ := tyOf_spec g2
    cases r12 with
    | req g3 r13 =>
      cases r13
      obtain ⟨q1, q2, q3, q4, q5, q6⟩ := g3
      dsimp only at q3 q5 q6
      obtain ⟨ln, rfl⟩ := Int.eq_ofNat_of_zero_le q1
      obtain ⟨cn, rfl⟩ := Int.eq_ofNat_of_zero_le (Int.le_trans q1 q2)
      have hlc : ln ≤ cn := by omega
      have hwl : IntKind.i64.wrap (ln : Int) = ln := by simp only [IntKind.wrap, IntKind.signed, IntKind.bits]; simp; omega
      have hwc : IntKind.i64.wrap (cn : Int) = cn := by simp only [IntKind.wrap, IntKind.signed, IntKind.bits]; simp; omega
      have hone0 : ∀ u ∈ (List.replicate ln z'.cells.toList).flatten, u.oneCell' = true := by
        intro u hu
        obtain ⟨l, hl, hu⟩ := List.mem_flatten.1 hu
        rw [(List.mem_replicate.1 hl).2] at hu
        exact q6 u hu
      have h5 := SatF.pushPlain _ hone0 h4
      have hzl := zeros_toList z'.cells cn i'.size (by simpa using q5)
      have hsplit : (List.replicate cn z'.cells.toList).flatten = (List.replicate ln z'.cells.toList).flatten ++ (List.replicate (cn - ln) z'.cells.toList).flatten := by
        rw [← List.flatten_append, List.replicate_append_replicate]
        congr 2; omega
      have harr : (Array.range (cn * i'.size)).map (z'.cells[· % z'.cells.size]!) = ((List.replicate ln z'.cells.toList).flatten).toArray ++ ((List.replicate (cn - ln) z'.cells.toList).flatten).toArray := by
        apply Array.ext'; rw [hzl, hsplit]; simp
      obtain ⟨F6, h6⟩ := h5.fresh (rest := ((List.replicate (cn - ln) z'.cells.toList).flatten).toArray) (ty := e) (v := .d (.row .own i'.size (List.replicate ln (z'.cells.toList.map D.p)))) (val := .slice (some ⟨w.heap.size, 0, none⟩) ln cn) (by simp)
        (by
          intro w' G _ hG hr hb
          have e1 : ((List.replicate ln z'.cells.toList).flatten.map fun u => V.d (.p u)) = ((List.replicate ln (z'.cells.toList.map D.p)).flatten).map V.d := by
            simp [List.map_flatten, Function.comp_def]
          rw [e1] at hG
          have hG' := RelVs.toD hG
          have := RelVs.d (RelDs.row (Z := Z) (B := B) (w := w') (m := .own) (s := i'.size) (c := cn) (xs := List.replicate ln (z'.cells.toList.map D.p)) hG' hr trivial (fun _ => hb.le (by
            simp at q5 ⊢
            rw [q5, ← Nat.add_mul]
            have : ln + (cn - ln) = cn := by omega
            rw [this]; exact Nat.le_refl _)) (fun e => absurd rfl e) (fun x hx => by rw [(List.mem_replicate.1 hx).2]; simpa using q5) (by simpa using hlc) .nil) (RelVs.nil (ρ := ρ))
          simpa [Md.foot] using this) (fun _ => trivial)
      refine wp_value (w' := w.alloc (.cells ((Array.range (cn * i'.size)).map (z'.cells[· % z'.cells.size]!)) e)) (val := .slice (some ⟨w.heap.size, 0, none⟩) ln cn) ?_ (hk _ _ ?_)
      · have hb1 : ¬ (281474976710656 < (i'.bytes : Int) * (cn : Int)) := by
          have : ((cn : Int) * (i'.bytes : Int)) = (i'.bytes : Int) * (cn : Int) := Int.mul_comm _ _
          omega
        have hb2 : cn * i'.bytes ≤ 140737488355328 := by
          have h7 : ((cn * i'.bytes : Nat) : Int) = (cn : Int) * (i'.bytes : Int) := by simp
          omega
        have hroom : (askRoom (cn * i'.bytes)).run P w = .ok () w := by
          have hn : ¬ (cn * i'.bytes > roomBytes) := by simp only [roomBytes]; omega
          unfold askRoom
          exact if_neg hn ▸ rfl
        have hcneg : ¬ ((cn : Int) < 0) := by omega
        have hlneg : ¬ ((ln : Int) < 0) := by omega
        have hlcneg : ¬ ((cn : Int) < (ln : Int)) := by omega
        by_cases h0 : cn * i'.size = 0
        · have er : Array.range 0 = #[] := rfl
          simp [execOp, ho, Instr.makeSlice, er, run_underlying hu, ex, ey, asInt, asIntOf, typeInfo, hi', hwl, hwc, hb1, hcneg, hlneg, hlcneg, hroom, sizeOf, h0, newRow]
        · simp [execOp, ho, Instr.makeSlice, run_underlying hu, ex, ey, asInt, asIntOf, typeInfo, hi', hwl, hwc, hb1, hcneg, hlneg, hlcneg, hroom, sizeOf, h0, zeroValue, hz', newRow]
      · rw [harr]
        have := h6.toNx (nm := nm) |>.satP
        simpa [zeroRow] using this
  · cases r10
end
section
variable {P : Program} {Γ : Ctx} {Z B : Zone} {ρ : Names} {F : Ix → List Nat} {N : Nat → Prop} {st st' : St} {ps : List V} {vals : List Value} {X : List Nat} {tm : Array Value} {w : World}
inductive SrcOf (w : World) : Value → Nat → List Value → Prop
  | nil {A : Option Addr} {c : Nat} : SrcOf w (.slice A 0 c) 0 []
  | cells {b o n c : Nat} {news : List Value} : w.rangeAt b o news → SrcOf w (.slice (some ⟨b, o, .none⟩) n c) n news
  | str {s : ByteArray} : SrcOf w (.string s) s.size (byteCells s)
theorem SrcOf.src {s : Nat} {tx : TypeId} {d : TypeDesc} {yv : Value} {n : Nat} {news : List Value} (h : SrcOf w yv n news) (hu : P.underlying tx = Option.some d) (hk : (TyK.of d).src = true)
    (hl : news.length = n * s) (h1 : ∀ u ∈ news, u.oneCell' = true) (hs : ∀ b, yv = .string b → s = 1) : Src P s tx yv n news w := by
  have kind : (∃ e', P.underlying tx = Option.some (.slice e')) ∨ P.underlying tx = Option.some .string := by
    rw [hu]
    cases d <;> simp_all [TyK.of, TyK.src]
  cases h with
  | nil =>
    rename_i A c
    cases A with
    | none => exact ⟨kind, fun _ => rfl, run_firstCells_none w s 0 0 c, run_firstCells_none w.drew s 0 0 c, by simp, by simp⟩
    | some a => exact ⟨kind, fun _ => rfl, run_firstCells_some w s 0 a 0 c [] (by simp) (by simp), run_firstCells_some w.drew s 0 a 0 c [] (by simp) (by simp), by simp, by simp⟩
  | cells hr =>
    rename_i b o c
    have hc : ∀ j u, news[j]? = Option.some u → w.cell? ((⟨b, o, .none⟩ : Addr).add j) = Option.some u := fun j u hj => by rw [Addr.add_mid]; exact hr j u hj
    exact ⟨kind, fun _ => rfl, run_firstCells_some w s n _ n c news hl hc, run_firstCells_some w.drew s n _ n c news hl (by simpa using hc), hl, h1⟩
  | str =>
    have := hs _ rfl
    subst this
    exact ⟨kind, fun _ => rfl, firstCells_string _ w, firstCells_string _ w.drew, hl, h1⟩
theorem undd_spec : ∀ {xs : List (List V)} {ds : List (List D)}, undd xs = some ds → xs = dd ds
  | [], ds, h => by simp [undd] at h; subst h; rfl
  | r :: rs, ds, h => by
    have hr : ∀ {r : List V} {d : List D}, undd.unddR r = some d → r = d.map V.d := by
      intro r
      induction r with
      | nil => intro d h; simp [undd.unddR] at h; subst h; rfl
      | cons x r ih =>
        intro d h
        cases x <;> simp [undd.unddR] at h
        obtain ⟨a, h1, rfl⟩ := h
        simp [ih h1]
    simp only [undd] at h
    split at h
    · rename_i d ds' h1 h2
      simp only [Option.some.injEq] at h
      subst h
      rw [hr h1, undd_spec h2]
      rfl
    · cases h
theorem rows_sound {y : V} {ys : List (List D)} {yv : Value} {vc : List Value} {R W : List Res} {s : Nat} (hr : Run (rowsOfP y) st ys st' R W) (hsz : sizeFits y s)
    (h : SatF Γ Z B ρ F N st (y :: ps) (yv :: vc) X tm w) :
    ∃ F' news X', SatF Γ Z B ρ F' N st' (ys.flatten.map V.d ++ ps) (news ++ vc) X' tm w ∧ SrcOf w yv ys.length news ∧ (∀ x ∈ ys, x.length = s) ∧ news.length = ys.length * s ∧ (∀ u ∈ news, u.oneCell' = true) ∧
      (∀ b, yv = .string b → s = 1) ∧ ((∃ b, yv = .string b) ↔ ∃ b, y = .d (.p (.string b))) := by
  have rowcase : ∀ {m : Md} {s' : Nat} {st : St} {F : Ix → List Nat}, SatF Γ Z B ρ F N st (.d (.row m s' ys) :: ps) (yv :: vc) X tm w → s' = s →
      ∃ F' news X', SatF Γ Z B ρ F' N st (ys.flatten.map V.d ++ ps) (news ++ vc) X' tm w ∧ SrcOf w yv ys.length news ∧ (∀ x ∈ ys, x.length = s) ∧ news.length = ys.length * s ∧ (∀ u ∈ news, u.oneCell' = true) ∧ (∃ A n c, yv = .slice A n c) := by
    rintro m s' st F h rfl
    obtain ⟨G, H, e, g1, g2, n1, n2⟩ := h.headF
    cases g1 with
    | d t1 t2 =>
      cases t2
      cases t1 with
      | none t3 =>
        cases t3
        obtain ⟨F', h'⟩ := h.drop
        exact ⟨F', [], X, by simpa using h', .nil, by simp, by simp, by simp, _, _, _, rfl⟩
      | @row _ _ b o c _ us FF _ _ _ q1 q2 q3 q4 q5 q6 q7 q8 =>
        cases q8
        obtain ⟨F', _, h'⟩ := h.rehand (ps' := ys.flatten.map V.d ++ ps) (vals' := us ++ vc) (X' := m.foot b ++ X) (Fp' := FF ++ H) (RelVs.append (RelVs.ofD q1) g2)
          (by rw [inNs_append]; exact ⟨inNs_map_d _, n2⟩)
          (by rw [e]; intro hh; rw [List.nodup_iff_count] at hh ⊢; intro t; have hh := hh t; simp only [List.count_append, List.count_cons, List.count_nil] at hh ⊢; omega)
          (by rw [e]; intro x hx; simp only [List.mem_append, List.mem_cons] at hx ⊢; grind)
        exact ⟨F', us, _, h', .cells q2, q6, by rw [← q1.length, flatten_length q6], q1.one, _, _, _, rfl⟩
  unfold rowsOfP at hr
  split at hr
  · cases hr
    obtain ⟨F', news, X', a1, a2, a3, a4, a5, A, n, c, a6⟩ := rowcase h hsz
    exact ⟨F', news, X', a1, a2, a3, a4, a5, by rw [a6]; simp, by rw [a6]; simp⟩
  · cases hr
    obtain ⟨G, g⟩ := h.head
    have := rel_p g
    subst this
    obtain ⟨F', h'⟩ := h.drop
    exact ⟨F', [], X, by simpa using h', .nil, by simp, by simp, by simp, by simp, by simp⟩
  · rename_i r s' i n
    cases hr with
    | @get _ _ _ _ c _ _ _ c1 c2 =>
      dsimp only at c2
      split at c2
      · rename_i s2 xs
        cases c2 with
        | req g1 r1 =>
          obtain ⟨rfl, g1⟩ := g1
          obtain ⟨ds, st1, R1, W1, R2, W2, r2, r3, -, -⟩ := r1.bind_inv
          obtain ⟨g2, rfl⟩ := ofO_run r2
          cases r3 with
          | req g3 r4 =>
            cases r4
            have e1 := undd_spec g2
            obtain ⟨G, g⟩ := h.head
            cases g with
            | @sl _ _ _ _ c A _ _ _ t1 t2 =>
              cases t2
              obtain ⟨F1, h1⟩ := h.drop
              have hn : ys.length = n := by
                have := congrArg List.length e1
                rw [dd_length] at this
                simp at this
                omega
              rcases t1 with ⟨a1, a2⟩ | ⟨b, o, a1, a2, a3, a4⟩
              · subst a1
                have : ys = [] := List.length_eq_zero_iff.1 hn
                subst this
                exact ⟨F1, [], X, by simpa using h1, .nil, by simp, by simp, by simp, by simp, by simp⟩
              · obtain ⟨us, Gg, hF, hrel, h0, hrange, hblk, huni, hin⟩ := h1.objAt c1 a1
                rw [segs_of g1] at hrel
                obtain ⟨u1, u23, G1, G23, rfl, rfl, k1, k23⟩ := hrel.split
                obtain ⟨u2, u3, G2, G3, rfl, rfl, k2, k3⟩ := k23.split
                have hl1 : u1.length = i * s' := by rw [← k1.length, flatten_take_length huni (by omega)]
                rw [rangeAt_append, rangeAt_append, hl1] at hrange
                rw [e1, dd_flatten] at k2
                have k2' := RelVs.toD k2
                have hG2 : G2 = [] := lin_D k2' (fun x hx => by
                  obtain ⟨l, hl, hx⟩ := List.mem_flatten.1 hx
                  exact g3 l hl x hx)
                subst hG2
                obtain ⟨⟨Fp, p1, p2⟩, p3⟩ := h1.pend
                obtain ⟨F2, _, h2⟩ := h1.rehand (ps' := ys.flatten.map V.d ++ ps) (vals' := u2 ++ vc) (X' := X) (Fp' := [] ++ Fp) (RelVs.append k2 p2) (by rw [inNs_append]; exact ⟨inNs_map_d _, p3⟩) (by rw [p1]; simp) (by rw [p1]; simp)
                have hseg : ∀ x ∈ ys, x.length = s' := by
                  intro x hx
                  have hm : x.map V.d ∈ dd ys := List.mem_map_of_mem hx
                  rw [← e1] at hm
                  have := huni _ (List.mem_of_mem_drop (List.mem_of_mem_take hm))
                  simpa using this
                refine ⟨F2, u2, X, h2, ?_, ?_, ?_, fun u hu => h0 u (by simp [hu]), by simp, by simp⟩
                · rw [a2, hn]; exact .cells hrange.2.1
                · intro x hx; rw [hseg x hx]; exact hsz
                · rw [← k2'.length, flatten_length hseg]; rw [show s' = s from hsz]
      · cases c2
  · rename_i b
    cases hr
    obtain ⟨G, g⟩ := h.head
    have := rel_p g
    subst this
    obtain ⟨F', h'⟩ := h.drop
    have hone : ∀ u ∈ byteCells b, u.oneCell' = true := by
      intro u hu
      obtain ⟨_, _, rfl⟩ := List.mem_map.1 hu
      rfl
    have h2 := SatF.pushPlain (byteCells b) hone h'
    have e1 : ((byteRows b).flatten.map V.d) = (byteCells b).map fun u => V.d (.p u) := by
      unfold byteRows byteCells
      generalize b.data.toList = l
      induction l with
      | nil => rfl
      | cons x l ih => simp only [List.map_cons, List.flatten_cons, List.map_append, ih]; rfl
    have e2 : (byteRows b).length = b.size := by
      unfold byteRows
      rw [List.length_map, Array.length_toList]; rfl
    have hs1 : s = 1 := by simpa [sizeFits, V.rowSize] using hsz.symm
    subst hs1
    refine ⟨F', byteCells b, X, by rw [e1]; exact h2, by rw [e2]; exact .str, ?_, by rw [e2, byteCells_length, Nat.mul_one], hone, by simp, by simp⟩
    intro x hx
    obtain ⟨c, _, rfl⟩ := List.mem_map.1 hx
    rfl
  · rename_i s' xs
    have hres : Run (resV 7 (.arr s' xs)) st (.row .own s' ys) st' (R ++ []) (W ++ []) := by
      unfold resV
      exact Run.bind (f := fun ds => Prog.ret (D.row Md.own s' ds)) hr Run.ret
    obtain ⟨F1, h1⟩ := (res_sound 7).1 _ _ _ _ _ _ [] ps _ X F hres h
    obtain ⟨F', news, X', a1, a2, a3, a4, a5, A, n, c, a6⟩ := rowcase (st := st') h1 hsz
    exact ⟨F', news, X', a1, a2, a3, a4, a5, by rw [a6]; simp, by rw [a6]; simp⟩
  · cases hr
end
section
variable {P : Program} {Γ : Ctx} {Z B : Zone} {ρ : Names} {F : Ix → List Nat} {N : Nat → Prop} {st st' : St} {ps : List V} {vals : List Value} {X : List Nat} {tm : Array Value} {w : World}
theorem SatF.extend {s b o c : Nat} {xs ys : List (List D)} {us news vc : List Value} {FF Fm Fc : List Nat}
    (h : SatF Γ Z B ρ F N st (.d (.row .own s xs) :: (ys.flatten.map V.d ++ ps)) (.slice (some ⟨b, o, none⟩) xs.length c :: (news ++ vc)) X tm w)
    (e : F none = (b :: (FF ++ (Fm ++ Fc))) ++ X)
    (q1 : RelDs Z B w xs.flatten us FF) (q2 : w.rangeAt b o us) (q4 : Blk w b (o + c * s)) (q6 : ∀ x ∈ xs, x.length = s)
    (k1 : RelDs Z B w ys.flatten news Fm) (k2 : RelVs Z B w ρ ps vc Fc) (hy : ∀ x ∈ ys, x.length = s) (hroom : xs.length + ys.length ≤ c) :
    w.there b (o + xs.length * s) news.length ∧
    ∃ F', SatF Γ Z B ρ F' N st (.d (.row .own s (xs ++ ys)) :: ps) (.slice (some ⟨b, o, none⟩) (xs.length + ys.length) c :: vc) X tm (w.setCells b (o + xs.length * s) news) := by
  obtain ⟨_, n2⟩ := h.pend
  have hn3 : V.inNs N ps := by
    have := n2.2
    rw [inNs_append] at this
    exact this.2
  have hul : us.length = xs.length * s := by rw [← q1.length, flatten_length q6]
  have hnl : news.length = ys.length * s := by rw [← k1.length, flatten_length hy]
  have hbound : o + xs.length * s + news.length ≤ o + c * s := by
    have : (xs.length + ys.length) * s ≤ c * s := Nat.mul_le_mul_right _ hroom
    rw [Nat.add_mul] at this
    omega
  have hthere := q4.there hbound
  refine ⟨hthere, ?_⟩
  have hnd := h.nodup none
  rw [e] at hnd
  have same : ∀ k, k ≠ b → (w.setCells b (o + xs.length * s) news).heap[k]? = w.heap[k]? := fun k hk => setCells_heap b news _ w k hk
  have hnb : ∀ x ∈ FF ++ (Fm ++ Fc), x ≠ b := by
    intro x hx e
    subst e
    rw [List.nodup_append] at hnd
    have := hnd.1
    rw [List.nodup_cons] at this
    exact this.1 hx
  have hB : ∀ k, B k → k ≠ b := by
    intro k hk e'
    subst e'
    exact (h.own none k (by rw [e]; simp)).1 hk
  have mono : ∀ {ds : List V} {vs : List Value} {G : List Nat}, RelVs Z B w ρ ds vs G → V.inNs N ds → (∀ x ∈ G, x ≠ b) → RelVs Z B (w.setCells b (o + xs.length * s) news) ρ ds vs G := by
    intro ds vs G h1 h2 h3
    exact h1.mono h2 (fun _ _ => rfl) (fun x hx => same x (h3 x hx)) (fun x hx => same x (hB x (h.zB x hx))) (fun x hx => same x (hB x hx)) (fun _ x => x) (fun _ x => x) (fun k n hk => setCells_blk b news _ w k n hk)
  have monoD : ∀ {ds : List D} {vs : List Value} {G : List Nat}, RelDs Z B w ds vs G → (∀ x ∈ G, x ≠ b) → RelDs Z B (w.setCells b (o + xs.length * s) news) ds vs G := by
    intro ds vs G h1 h3
    exact RelVs.toD (mono (RelVs.ofD h1) (inNs_map_d _) h3)
  refine ⟨fun x => if x = none then (b :: ((FF ++ Fm) ++ Fc)) ++ X else F x, ?_⟩
  refine h.step [none] (by simp) (grow_setCells _ _ _ _) ?_ (fun _ _ => rfl) ?_ (fun _ _ hs => ⟨hs, rfl⟩) (by simp) (fun _ x => x) (fun _ _ => rfl)
    (fun _ x => x) (fun _ x => x) h.zB (fun _ x => .inl x) (fun _ x => .inl x) (by simp) (by simp) ?_ (by simp) ?_ ?_
  · intro k hk hn
    refine same k (fun e' => hn ?_)
    subst e'
    simp [e]
  · intro x hx
    simp only [List.mem_cons, List.not_mem_nil, or_false] at hx
    simp [hx]
  · intro _
    refine ⟨⟨b :: ((FF ++ Fm) ++ Fc), by simp, ?_⟩, trivial, hn3⟩
    have hd : RelDs Z B (w.setCells b (o + xs.length * s) news) [.row .own s (xs ++ ys)] [.slice (some ⟨b, o, none⟩) (xs ++ ys).length c] (Md.foot .own b ++ (FF ++ Fm) ++ []) := by
      refine RelDs.row (us := us ++ news) ?_ ?_ trivial (fun _ => setCells_blk b news _ w _ _ q4) (fun hh => absurd rfl hh) ?_ (by simp; omega) .nil
      · rw [List.flatten_append]
        exact RelDs.append (monoD q1 (fun x hx => hnb x (by simp [hx]))) (monoD k1 (fun x hx => hnb x (by simp [hx])))
      · rw [rangeAt_append, hul]
        exact ⟨World.rangeAt_setCells_apart q2 _ _ _ (.inr (.inl (by omega))), World.rangeAt_setCells_same w b (o + xs.length * s) news hthere⟩
      · intro x hx
        rcases List.mem_append.1 hx with hx | hx
        · exact q6 x hx
        · exact hy x hx
    have := RelVs.d (ρ := ρ) hd (mono k2 hn3 (fun x hx => hnb x (by simp [hx])))
    simpa [Md.foot] using this
  · simpa using hnd
  · intro k hk
    simp only [List.flatMap_cons, List.flatMap_nil, List.append_nil, if_true] at hk
    have hm : k ∈ F none := by rw [e]; simpa using hk
    exact ⟨.inl (by simpa using hm), by rw [setCells_size]; exact (h.own none k hm).2.1, (h.own none k hm).1⟩
theorem SatF.newRow {s c : Nat} {xs : List (List D)} {us vc : List Value} {rest : Array Value} {ty : TypeId}
    (h : SatF Γ Z B ρ F N st (xs.flatten.map V.d ++ ps) (us ++ vc) X tm w) (hx : ∀ x ∈ xs, x.length = s) (hl : us.length = xs.length * s) (hr : rest.size = (c - xs.length) * s) (hc : xs.length ≤ c) :
    ∃ F', SatF Γ Z B ρ F' N st (.d (.row .own s xs) :: ps) (.slice (some ⟨w.heap.size, 0, none⟩) xs.length c :: vc) X tm (w.alloc (.cells (us.toArray ++ rest) ty)) := by
  refine h.fresh (by rw [List.length_map, flatten_length hx, hl]) ?_ (fun _ => trivial)
  intro w' G _ hG hrange hblk
  have hD := RelVs.toD hG
  have := RelVs.d (ρ := ρ) (RelDs.row (m := .own) (c := c) hD hrange trivial (fun _ => hblk.le (by rw [hl, hr, ← Nat.add_mul]; exact Nat.le_of_eq (by rw [Nat.zero_add]; congr 1; omega))) (fun hh => absurd rfl hh) hx hc .nil) .nil
  simpa [Md.foot] using this
theorem append_core {t tx e ty : TypeId} {i : TypeInfo} {z : Value} {xs ys : List (List D)} {xv yv : Value} {news vc : List Value}
    (ht : P.underlying t = some (.slice e)) (hi : P.info? e = some i) (hz : i.zero = some z) (hzs : z.cells.size = i.size) (hs : Src P i.size tx yv ys.length news w)
    (h : SatF Γ Z B ρ F N st (.d (.row .own i.size xs) :: (ys.flatten.map V.d ++ ps)) (xv :: (news ++ vc)) X tm w)
    (hy : ∀ x ∈ ys, x.length = i.size) (hbytes : (xs.length + ys.length) * i.bytes ≤ 35184372088832) (hn : xs.length + ys.length ≤ 35184372088832) :
    ∃ v' w' F', (Builtin.append_ #[t, tx] ty #[xv, yv]).run P w = .ok v' w' ∧ SatF Γ Z B ρ F' N st (.d (.row .own i.size (xs ++ ys)) :: ps) (v' :: vc) X tm w' := by
  have hnl := hs.newsLen
  obtain ⟨Fa, Fm, Fc, e0, g1, g2, g3, n1, n2, n3⟩ := SatF.partsAt (pre := [.d (.row .own i.size xs)]) (mid := ys.flatten.map V.d) (ps := ps) (va := [xv]) (vm := news) (vc := vc) (by simpa using h) rfl (by rw [List.length_map, flatten_length hy, hnl])
  have k1 := RelVs.toD g2
  -- THERE IS NO ROOM
  have grow : ∀ (A : Option Addr) (c : Nat) (us : List Value) (FF : List Nat), xv = .slice A xs.length c → RelDs Z B w xs.flatten us FF → (∀ x ∈ xs, x.length = i.size) → us.length = xs.length * i.size →
      (Builtin.firstCells i.size xs.length (.slice A xs.length c)).run P w.drew = .ok us.toArray w.drew → (∀ x, (FF ++ (Fm ++ Fc)).count x ≤ (Fa ++ (Fm ++ Fc)).count x) → c < xs.length + ys.length →
      ∃ v' w' F', (Builtin.append_ #[t, tx] ty #[xv, yv]).run P w = .ok v' w' ∧ SatF Γ Z B ρ F' N st (.d (.row .own i.size (xs ++ ys)) :: ps) (v' :: vc) X tm w' := by
    rintro A c us FF rfl q1 q6 hul hold hcnt hlt
    have hrun := run_append_grow_src w t tx ty e i z ht hi hz A xs.length c us hold yv ys.length news hs hlt (by omega) (growslice_fits hlt (by omega))
    obtain ⟨F1, _, h1⟩ := h.rehand (ps' := (xs ++ ys).flatten.map V.d ++ ps) (vals' := (us ++ news) ++ vc) (X' := X) (Fp' := (FF ++ Fm) ++ Fc)
      (RelVs.append (by rw [List.flatten_append, List.map_append]; exact RelVs.append (RelVs.ofD q1) g2) g3) (by rw [inNs_append]; exact ⟨inNs_map_d _, n3⟩)
      (by rw [e0]; intro hh; rw [List.nodup_iff_count] at hh ⊢; intro t; have hh := hh t; have := hcnt t; simp only [List.count_append, List.count_cons, List.count_nil] at hh this ⊢; omega)
      (by
        rw [e0]; intro x hx
        have h1 := List.count_pos_iff.2 hx
        have h2 := hcnt x
        refine List.count_pos_iff.1 ?_
        simp only [List.count_append] at h1 h2 ⊢; omega)
    have hge := grownCap_ge w (xs.length + ys.length) c e
    obtain ⟨F2, h2⟩ := SatF.newRow (s := i.size) (c := grownCap w (xs.length + ys.length) c e) (rest := Builtin.zeroCells z.cells (grownCap w (xs.length + ys.length) c e - (xs.length + ys.length))) (ty := e) h1.drew
      (by intro x hx; rcases List.mem_append.1 hx with hx | hx; exact q6 x hx; exact hy x hx) (by simp [hul, hnl, Nat.add_mul]) (by rw [size_zeroCells, hzs]; simp) (by simpa using hge)
    refine ⟨_, _, F2, hrun, ?_⟩
    simpa using h2
  -- NOTHING THERE
  have nothing : ∀ (A : Option Addr) (c : Nat), xv = .slice A xs.length c → ys = [] → xs.length ≤ c → 
      ∃ v' w' F', (Builtin.append_ #[t, tx] ty #[xv, yv]).run P w = .ok v' w' ∧ SatF Γ Z B ρ F' N st (.d (.row .own i.size (xs ++ ys)) :: ps) (v' :: vc) X tm w' := by
    rintro A c rfl rfl hle
    have hnews : news = [] := List.length_eq_zero_iff.1 (by rw [hnl]; simp)
    subst hnews
    refine ⟨_, w, F, run_append_nothing w t tx ty e i ht hi A xs.length c hle yv hs, ?_⟩
    simpa using h
  have key : ∀ {ds : List D} {vs : List Value} {G : List Nat}, RelDs Z B w ds vs G → ds = [.row .own i.size xs] → vs = [xv] → G = Fa →
      ∃ v' w' F', (Builtin.append_ #[t, tx] ty #[xv, yv]).run P w = .ok v' w' ∧ SatF Γ Z B ρ F' N st (.d (.row .own i.size (xs ++ ys)) :: ps) (v' :: vc) X tm w' := by
    intro ds vs G hrel e1 e2 e3
    cases hrel with
    | nil => cases e1
    | p _ _ => cases e1
    | ptr _ _ _ _ _ _ => cases e1
    | none t3 =>
      rename_i m s A ds vs
      simp only [List.cons.injEq, D.row.injEq] at e1
      obtain ⟨⟨rfl, rfl, rfl⟩, rfl⟩ := e1
      simp only [List.cons.injEq] at e2
      obtain ⟨e2, rfl⟩ := e2
      cases t3
      by_cases hys : ys = []
      · exact nothing A 0 e2.symm hys (by simp)
      · have hpos : 0 < ys.length := List.length_pos_iff.2 hys
        refine grow A 0 [] [] e2.symm .nil (by simp) (by simp) ?_ (by simp) (by simpa using hpos)
        cases A with
        | none => exact run_firstCells_none (P := P) w.drew _ 0 0 0
        | some a => exact run_firstCells_some (P := P) w.drew _ 0 a 0 0 [] (by simp) (by simp)
    | @row m s b o c xs2 us FF _ _ _ q1 q2 q3 q4 q5 q6 q7 q8 =>
      simp only [List.cons.injEq, D.row.injEq] at e1
      obtain ⟨⟨rfl, rfl, rfl⟩, rfl⟩ := e1
      simp only [List.cons.injEq] at e2
      obtain ⟨e2, rfl⟩ := e2
      cases q8
      have hul : us.length = xs2.length * i.size := by rw [← q1.length, flatten_length q6]
      by_cases hroom : xs2.length + ys.length ≤ c
      · subst e2
        subst e3
        obtain ⟨hthere, F', h'⟩ := h.extend (FF := FF) (Fm := Fm) (Fc := Fc) (by rw [e0]; simp [Md.foot]) q1 q2 (q4 rfl) q6 k1 g3 hy hroom
        have hrun := run_append_room_src w t tx ty e i ht hi b o xs2.length c yv ys.length news hs hroom (fun j hj => (hthere j hj).1) (fun j hj => (hthere j hj).2)
        exact ⟨_, _, F', hrun, h'⟩
      · refine grow _ c us FF e2.symm q1 q6 hul ?_ (by intro x; rw [← e3]; simp only [List.count_append]; omega) (by omega)
        refine run_firstCells_some (P := P) w.drew _ _ _ _ _ us hul ?_
        intro j v hj
        have := q2 j v hj
        rw [Addr.add_mid]
        simpa using this
  cases g1 with
  | d t1 t2 =>
    cases t2
    exact key t1 rfl rfl (by simp)
theorem resV_size {n : Nat} {x : V} {m : Md} {s : Nat} {xs : List (List D)} {R W : List Res} (h : Run (resV n x) st (.row m s xs) st' R W) : x.rowSize = some s := by
  cases n with
  | zero => simp only [resV] at h; cases h
  | succ n =>
    unfold resV at h
    split at h
    · cases h; rfl
    · cases h with
      | @get _ _ _ _ c _ _ _ c1 c2 =>
        dsimp only at c2
        split at c2
        · cases c2 with
          | req g r =>
            cases r with
            | set r =>
              obtain ⟨_, _, _, _, _, _, _, r2, _, _⟩ := r.bind_inv
              cases r2
              rfl
        · cases c2
    · cases h with
      | @get _ _ _ _ c _ _ _ c1 c2 =>
        dsimp only at c2
        split at c2
        · cases c2 with
          | set r =>
              obtain ⟨_, _, _, _, _, _, _, r2, _, _⟩ := r.bind_inv
              cases r2
        · cases c2
    · obtain ⟨_, _, _, _, _, _, _, r2, _, _⟩ := h.bind_inv
      cases r2
      rfl
    · cases h
theorem onto_sound {x : V} {xval : Value} {xs : List (List D)} {s : Nat} {R W : List Res} (hr : Run (ontoP x) st xs st' R W) (hsz : sizeFits x s) (h : SatF Γ Z B ρ F N st (x :: ps) (xval :: vals) X tm w) :
    ∃ F', SatF Γ Z B ρ F' N st' (.d (.row .own s xs) :: ps) (xval :: vals) X tm w := by
  unfold ontoP at hr
  split at hr
  · cases hr
    obtain ⟨G, g⟩ := h.head
    have := rel_p g
    subst this
    exact h.turn (fun G _ => ⟨[], .d (.none .nil) .nil, by simp, by simp⟩) (fun _ => trivial)
  · obtain ⟨d, st1, R1, W1, R2, W2, r1, r2, -, -⟩ := hr.bind_inv
    split at r2
    · rename_i s' xs'
      cases r2
      have e := resV_size r1
      have e2 : s' = s := by
        unfold sizeFits at hsz
        rw [e] at hsz
        exact hsz
      subst e2
      exact (res_sound 7).1 _ _ _ _ _ _ [] ps _ X F r1 h
    · cases r2
theorem append_ok {o : Oper} {nm : Nat} {v : V} {R W : List Res} {t t2 : TypeId} {x y : Operand} (ho : o.op = .call { callee := .builtin .append, args := #[x, y], argTypes := #[t, t2] })
    (hr : Run ((fetchP y).bind fun b => (fetchP x).bind fun a => appendP P t t2 a b) st v st' R W) : OpOk P o nm st v st' := by
  rintro Γ N a w ⟨Z, B, ρ, F, h⟩ hf K Q hk
  obtain ⟨yv, st1, R1, W1, R2, W2, r1, r2, -, -⟩ := hr.bind_inv
  obtain ⟨xv, st2, R3, W3, R4, W4, r3, r4, -, -⟩ := r2.bind_inv
  obtain ⟨F1, h1⟩ := fetch_sound r1 (rfl : a.tmps = a.tmps) h
  obtain ⟨F2, h2⟩ := fetch_sound r3 (rfl : a.tmps = a.tmps) h1
  unfold appendP at r4
  obtain ⟨ty, st3, R5, W5, R6, W6, r5, r6, -, -⟩ := r4.bind_inv
  obtain ⟨g1, rfl⟩ := ofO_run r5
  obtain ⟨d, i, z, hu, hi, hz, rfl⟩ := tyOf_spec g1
  dsimp only at r6
  split at r6
  · rename_i e hk1
    have hd := ofK_slice hk1
    subst hd
    obtain ⟨te, st4, R7, W7, R8, W8, r7, r8, -, -⟩ := r6.bind_inv
    obtain ⟨g2, rfl⟩ := ofO_run r7
    obtain ⟨ty2, st5, R9, W9, R10, W10, r9, r10, -, -⟩ := r8.bind_inv
    obtain ⟨g3, rfl⟩ := ofO_run r9
    obtain ⟨de, ie, ze, hue, hie, hze, rfl⟩ := tyOf_spec g2
    obtain ⟨d2, i2, z2, hu2, hi2, hz2, rfl⟩ := tyOf_spec g3
    cases r10 with
    | req g4 r11 =>
      obtain ⟨s1, s2, s3, s4⟩ := g4
      dsimp only at s1 s2 s3 s4 r11
      obtain ⟨ys, st6, R11, W11, R12, W12, r12, r13, -, -⟩ := r11.bind_inv
      obtain ⟨xs, st7, R13, W13, R14, W14, r14, r15, -, -⟩ := r13.bind_inv
      cases r15 with
      | req g5 r16 =>
        cases r16
        obtain ⟨F3, h3⟩ := h2.swap
        obtain ⟨F4, news, X', h4, hsrc, hy, hnl, hone, hstr, hstr2⟩ := rows_sound r12 s2 h3
        obtain ⟨F5, h5⟩ := SatF.front (pre := ys.flatten.map V.d) (mid := [xv]) (ps := []) (va := news) (vm := [a.eval x]) (vc := []) h4 (by rw [List.length_map, flatten_length hy, hnl]) rfl
        obtain ⟨F6, h6⟩ := onto_sound r14 s1 h5
        obtain ⟨v', w', F7, hrun, h7⟩ := append_core (ty := o.type) hu hie hze (by simpa using s3) (hsrc.src hu2 s4 hnl hone hstr) h6 hy g5.1 g5.2
        obtain ⟨F8, h8⟩ := h7.dropX
        refine wp_value (w' := w') (val := v') ?_ (hk _ _ h8.toNx.satP)
        simp [execOp, ho, resolve, invoke, builtin, hrun]
  · cases r6
theorem SrcOf.part {s n m : Nat} {yv : Value} {news : List Value} (h : SrcOf w yv n news) (hl : news.length = n * s) (hm : m ≤ n) (hs : ∀ b, yv = .string b → s = 1) :
    (Builtin.lenOf yv).run P w = .ok n w ∧ (Builtin.firstCells s m yv).run P w = .ok (news.take (m * s)).toArray w := by
  cases h with
  | nil =>
    rename_i A c
    refine ⟨rfl, ?_⟩
    obtain rfl : m = 0 := by omega
    cases A with
    | none => simpa using run_firstCells_none (P := P) w s 0 0 c
    | some a => exact run_firstCells_some (P := P) w s 0 a 0 c _ (by simp) (by simp)
  | cells hr =>
    rename_i b o c
    refine ⟨rfl, run_firstCells_some (P := P) w s m _ n c _ ?_ ?_⟩
    · rw [List.length_take, hl]
      exact Nat.min_eq_left (Nat.mul_le_mul_right _ hm)
    · intro j u hj
      rw [Addr.add_mid]
      refine hr j u ?_
      rw [List.getElem?_take] at hj
      split at hj
      · exact hj
      · cases hj
  | str =>
    rename_i b
    have := hs _ rfl
    subst this
    refine ⟨rfl, ?_⟩
    simp only [Builtin.firstCells, Nat.mul_one, byteCells]
    simp
    apply Array.ext'
    simp [List.map_take]
theorem run_copyAny {dT sT ty elem : TypeId} {i : TypeInfo} (hu : P.underlying dT = some (.slice elem)) (hi : P.info? elem = some i) {A : Option Addr} {dLen dCap n : Nat} {yv : Value} {cs : List Value}
    (h1 : (Builtin.lenOf yv).run P w = .ok n w) (h2 : (Builtin.firstCells i.size (Nat.min n dLen) yv).run P w = .ok cs.toArray w) {w' : World}
    (h3 : ∀ a, A = some a → (storeCells a cs 0).run P w = .ok () w') (h4 : A = none → w' = w) :
    (Builtin.copy_ #[dT, sT] ty #[.slice A dLen dCap, yv]).run P w = .ok (goInt (Nat.min n dLen)) w' := by
  cases A with
  | none =>
    rw [h4 rfl]
    simp [Builtin.copy_, run_underlying hu, sizeOf, typeInfo, hi, h1, h2]
  | some a =>
    simp [Builtin.copy_, run_underlying hu, sizeOf, typeInfo, hi, h1, h2, h3 a rfl]
theorem copy_ok {o : Oper} {nm : Nat} {v : V} {R W : List Res} {t t2 : TypeId} {x y : Operand} (ho : o.op = .call { callee := .builtin .copy, args := #[x, y], argTypes := #[t, t2] })
    (hr : Run ((fetchP y).bind fun b => (fetchP x).bind fun a => copyP P t t2 a b) st v st' R W) : OpOk P o nm st v st' := by
  rintro Γ N a w ⟨Z, B, ρ, F, h⟩ hf K Q hk
  obtain ⟨yv, st1, R1, W1, R2, W2, r1, r2, -, -⟩ := hr.bind_inv
  obtain ⟨xv, st2, R3, W3, R4, W4, r3, r4, -, -⟩ := r2.bind_inv
  obtain ⟨F1, h1⟩ := fetch_sound r1 (rfl : a.tmps = a.tmps) h
  obtain ⟨F2, h2⟩ := fetch_sound r3 (rfl : a.tmps = a.tmps) h1
  unfold copyP at r4
  obtain ⟨ty, st3, R5, W5, R6, W6, r5, r6, -, -⟩ := r4.bind_inv
  obtain ⟨g1, rfl⟩ := ofO_run r5
  obtain ⟨d, i, z, hu, hi, hz, rfl⟩ := tyOf_spec g1
  dsimp only at r6
  split at r6
  · rename_i e hk1
    have hd := ofK_slice hk1
    subst hd
    obtain ⟨te, st4, R7, W7, R8, W8, r7, r8, -, -⟩ := r6.bind_inv
    obtain ⟨g2, rfl⟩ := ofO_run r7
    obtain ⟨de, ie, ze, hue, hie, hze, rfl⟩ := tyOf_spec g2
    obtain ⟨ys, st6, R11, W11, R12, W12, r12, r13, -, -⟩ := r8.bind_inv
    split at r13
    · rename_i r s i0 n
      cases r13 with
      | @get _ _ _ _ c _ _ _ c1 c2 =>
        dsimp only at c2
        split at c2
        · rename_i s' xs
          cases c2 with
          | req q1 c3 =>
            obtain ⟨q1, q2, q3, q4, q5⟩ := q1
            try dsimp only at q1
            try dsimp only at q3
            subst q2
            generalize hfin : st' = fin at c3
            cases c3 with
            | set c4 =>
              cases c4
              obtain ⟨F3, h3⟩ := h2.swap
              obtain ⟨F4, news, X', h4, hsrc, hy, hnl, hone, hstr, hstr2⟩ := rows_sound r12 q1 h3
              obtain ⟨F5, h5⟩ := SatF.front (pre := ys.flatten.map V.d) (mid := [V.sl r s i0 n]) (ps := []) (va := news) (vm := [a.eval x]) (vc := []) h4 (by rw [List.length_map, flatten_length hy, hnl]) rfl
              obtain ⟨Gx, gx⟩ := h5.head
              generalize hx : a.eval x = val at gx h5
              obtain ⟨F6, h6⟩ := h5.drop
              obtain ⟨l1, l2⟩ := hsrc.part (P := P) (m := Nat.min ys.length n) hnl (Nat.min_le_left _ _) hstr
              have hlt : (ys.take n).length = Nat.min ys.length n := by rw [List.length_take, Nat.min_comm]
              have hmn : Nat.min ys.length n ≤ n := Nat.min_le_right _ _
              have hmi : min (ys.length : Int) (n : Int) = ((Nat.min ys.length n : Nat) : Int) := by show _ = ((min ys.length n : Nat) : Int); omega
              have hyt : ∀ r ∈ ys.take n, r.length = ie.size := fun r hr => hy r (List.mem_of_mem_take hr)
              have hflat : ys.flatten = (ys.take n).flatten ++ (ys.drop n).flatten := by rw [← List.flatten_append, List.take_append_drop]
              have hfl : (ys.take n).flatten.length = Nat.min ys.length n * ie.size := by rw [flatten_length hyt, hlt]
              rw [hflat, List.map_append] at h6
              have hv : news = news.take (Nat.min ys.length n * ie.size) ++ news.drop (Nat.min ys.length n * ie.size) := (List.take_append_drop _ _).symm
              generalize hu1 : news.take (Nat.min ys.length n * ie.size) = u1 at hv l2
              generalize hu2 : news.drop (Nat.min ys.length n * ie.size) = u2 at hv
              have hu1l : u1.length = ((ys.take n).flatten.map V.d).length := by
                rw [← hu1, List.length_take, List.length_map, hfl, hnl]
                exact Nat.min_eq_left (Nat.mul_le_mul_right _ (Nat.min_le_left _ _))
              have hu2l : u2.length = ((ys.drop n).flatten.map V.d).length := by
                rw [← hu2, List.length_drop, List.length_map, hnl, flatten_length (fun r hr => hy r (List.mem_of_mem_drop hr)), List.length_drop, ← Nat.sub_mul]
                congr 1
                rw [show Nat.min ys.length n = min ys.length n from rfl, Nat.min_def]; split <;> omega
              have hone1 : ∀ u ∈ u1, u.oneCell' = true := fun u hu => hone u (by rw [hv]; simp [hu])
              rw [hv] at h6
              obtain ⟨Fa, Fm, Fc, e0, p1, p2, p3, m1, m2, m3⟩ := SatF.partsAt (pre := (ys.take n).flatten.map V.d) (mid := (ys.drop n).flatten.map V.d) (ps := []) (va := u1) (vm := u2) (vc := []) (by simpa using h6) hu1l hu2l
              obtain ⟨F7, _, h7⟩ := h6.rehand (ps' := (ys.take n).flatten.map V.d ++ []) (vals' := u1 ++ []) (X' := []) (Fp' := Fa ++ []) (RelVs.append p1 .nil) (by rw [inNs_append]; exact ⟨m1, trivial⟩)
                (by rw [e0]; intro hh; rw [List.nodup_iff_count] at hh ⊢; intro t; have hh := hh t; simp only [List.count_append, List.count_cons, List.count_nil] at hh ⊢; omega)
                (by rw [e0]; intro x hx; simp only [List.mem_append, List.mem_cons] at hx ⊢; grind)
              have key : ∀ A c w', val = .slice A n c → (∀ a, A = some a → (storeCells a u1 0).run P w = .ok () w') → (A = none → w' = w) →
                  SatP Γ N (upd st6 (.r r) (some (.o s (setSeg xs i0 (dd (ys.take n)))))) [] [] a.tmps w' → o.wp P a w K Q := by
                intro A c w' e1 e2 e3 e4
                have hrun := run_copyAny (P := P) (sT := t2) (ty := o.type) hu hie (A := A) (dLen := n) (dCap := c) l1 l2 e2 e3
                obtain ⟨Z', B', ρ', F', e4⟩ := e4
                have h9 := e4.push (v := .int ((Nat.min ys.length n : Nat) : Int)) (val := goInt (Nat.min ys.length n)) (.d (.p rfl .nil) .nil) trivial
                refine wp_value (w' := w') (val := goInt (Nat.min ys.length n)) ?_ (hk _ _ ?_)
                · simp [execOp, ho, resolve, invoke, builtin, hx, e1, hrun]
                · have h10 := h9.toNx (nm := nm)
                  subst hfin
                  rw [hmi]
                  exact ⟨Z', B', ρ', F', h10⟩
              cases gx with
              | @sl _ _ _ _ c A _ _ _ t1 t3 =>
                cases t3
                rcases t1 with ⟨a1, a2⟩ | ⟨b, oo, a1, a2, a3, a4⟩
                · have e5 : u1 = [] := by
                    refine List.eq_nil_of_length_eq_zero ?_
                    rw [hu1l, List.length_map, hfl, a1]
                    simp
                  subst e5
                  refine key A c w rfl (fun a _ => rfl) (fun _ => rfl) ?_
                  have e6 : upd st6 (.r r) (some (.o s (setSeg xs i0 (dd (ys.take n))))) = st6 := by
                    funext q
                    simp only [upd]
                    split
                    · rename_i e; rw [e, c1]; subst a1; simp [setSeg, dd, List.take_append_drop]
                    · rfl
                  rw [e6]
                  have e7 : (ys.take n).flatten.map V.d = [] := by
                    refine List.eq_nil_of_length_eq_zero ?_
                    rw [← hu1l]; rfl
                  rw [e7] at h7
                  exact h7.satP
                · obtain ⟨vs0, G0, hF0, hrel0, h10, hrange0, hblk0, huni0, hin0⟩ := h7.objAt c1 a1
                  have hseg : i0 + (dd (ys.take n)).length ≤ xs.length := by rw [dd_length, hlt]; omega
                  have hxs : xs.flatten = (xs.take i0).flatten ++ (((xs.drop i0).take (dd (ys.take n)).length).flatten ++ (xs.drop (i0 + (dd (ys.take n)).length)).flatten) := by
                    rw [← List.flatten_append, ← List.flatten_append]
                    congr 1
                    rw [← List.drop_drop, List.take_append_drop, List.take_append_drop]
                  have hlA : (xs.take i0).flatten.length = i0 * s := flatten_take_length huni0 (by omega)
                  have hw := h7.writeF (A := (xs.take i0).flatten) (M := ((xs.drop i0).take (dd (ys.take n)).length).flatten) (C := (xs.drop (i0 + (dd (ys.take n)).length)).flatten) (xs' := setSeg xs i0 (dd (ys.take n))) c1 a1 hxs
                    (by simp [setSeg, dd_flatten, List.flatten_append])
                    (by
                      rw [List.length_map, hfl]
                      have : ∀ x ∈ (xs.drop i0).take (dd (ys.take n)).length, x.length = s := fun x hx => huni0 x (List.mem_of_mem_drop (List.mem_of_mem_take hx))
                      rw [flatten_length this, List.length_take, List.length_drop, dd_length, hlt, q3]
                      congr 1
                      rw [Nat.min_def]; split <;> omega)
                    (by simp only [setSeg, List.length_append, List.length_take, List.length_drop]; rw [dd_length, hlt] at *; rw [Nat.min_eq_left (show i0 ≤ xs.length by omega)]; omega)
                    (by
                      intro x hx
                      simp only [setSeg, List.mem_append] at hx
                      rcases hx with (hx | hx) | hx
                      · exact huni0 x (List.mem_of_mem_take hx)
                      · obtain ⟨q, hq, rfl⟩ := List.mem_map.1 hx
                        rw [List.length_map, hyt q hq, q3]
                      · exact huni0 x (List.mem_of_mem_drop hx))
                    (fun _ hin => inNss_iff.2 fun x hx => by
                      simp only [setSeg, List.mem_append] at hx
                      rcases hx with (hx | hx) | hx
                      · exact inNss_iff.1 hin x (List.mem_of_mem_take hx)
                      · obtain ⟨q, hq, rfl⟩ := List.mem_map.1 hx
                        exact inNs_map_d _
                      · exact inNss_iff.1 hin x (List.mem_of_mem_drop hx)) hone1 hu1l
                  obtain ⟨hth, F8, h8⟩ := hw
                  rw [hlA] at hth h8
                  refine key A c _ rfl (fun a ha => ?_) (fun e => by rw [a2] at e; cases e) h8.satP
                  rw [a2] at ha
                  cases ha
                  have := run_storeCells_cells (P := P) b (oo + i0 * s) u1 0 w (fun j hj => by have := (hth j hj).1; simpa using this) (fun j hj => by have := (hth j hj).2; simpa using this) hone1
                  simpa using this
        · cases c2
    · cases r13
  · cases r6
end
section
variable {P : Program} {Γ : Ctx} {Z B : Zone} {ρ : Names} {F : Ix → List Nat} {N : Nat → Prop} {st st' : St} {ps : List V} {vals : List Value} {X : List Nat} {tm : Array Value} {w : World}
theorem rowsBytes_cells : ∀ {ys : List (List D)} {news : List Value} {G : List Nat} {l : List UInt8}, RelDs Z B w ys.flatten news G → rowsBytes ys = some l → ∃ ns : List Int, news = ns.map (Value.int .u8) ∧ l = ns.map fun n => UInt8.ofNat n.toNat
  | [], news, G, l, h, hl => by
    simp only [rowsBytes, Option.some.injEq] at hl
    subst hl
    cases h
    exact ⟨[], rfl, rfl⟩
  | r :: ys, news, G, l, h, hl => by
    unfold rowsBytes at hl
    split at hl
    · rename_i e
      cases e
    · rename_i n r' e
      simp only [List.cons.injEq] at e
      obtain ⟨rfl, rfl⟩ := e
      simp only [Option.map_eq_some_iff] at hl
      obtain ⟨l', h1, rfl⟩ := hl
      cases h with
      | p _ h2 =>
        obtain ⟨ns, rfl, rfl⟩ := rowsBytes_cells h2 h1
        exact ⟨n :: ns, rfl, rfl⟩
    · cases hl
theorem run_convert_bytes_any (w : World) (src e dst : TypeId) (hs : P.underlying src = some (.slice e)) (he : P.underlying e = some (.int .u8)) (hd : P.underlying dst = some .string) {val : Value} {n : Nat} {ns : List Int}
    (h : SrcOf w val n (ns.map (Value.int .u8))) (hn : (ns.map (Value.int .u8)).length = n) (hstr : ∀ b, val ≠ .string b) : (convert src dst val).run P w = .ok (.string (strOfNums ns)) w := by
  have fin : ∀ (a : Addr) (c : Nat), (loadCells a n).run P w = .ok (ns.map (Value.int .u8)).toArray w → (convert src dst (.slice (some a) n c)).run P w = .ok (.string (strOfNums ns)) w := by
    intro a c hl
    rw [run_convert_bytes_string w src dst e _ n c hs he hd, run_bytesToString w _ n c ns hl, foldl_push_bytes]
    simp [strOfNums, ByteArray.empty, ByteArray.emptyWithCapacity]
    rfl
  generalize hnews : ns.map (Value.int .u8) = news at h hn fin
  cases h with
  | nil =>
    rename_i A c
    have : ns = [] := by simpa using hnews
    subst this
    cases A with
    | none => exact run_convert_bytes_nil w src e hs he 0 c dst hd
    | some a => exact fin a c (by simpa using run_loadCells_list (P := P) w a [] (by simp))
  | cells hr =>
    rename_i b o c
    refine fin _ c ?_
    have := run_loadCells_list (P := P) w ⟨b, o, none⟩ news (fun j u hj => by rw [Addr.add_mid]; exact hr j u hj)
    rw [hn] at this
    exact this
  | str => exact absurd rfl (hstr _)
theorem byteRows_cells (b : ByteArray) : ((byteRows b).flatten.map V.d) = (byteCells b).map fun u => V.d (.p u) := by
  unfold byteRows byteCells
  generalize b.data.toList = l
  induction l with
  | nil => rfl
  | cons x l ih => simp only [List.map_cons, List.flatten_cons, List.map_append, ih]; rfl
theorem byteRows_length (b : ByteArray) : (byteRows b).length = b.size := by
  unfold byteRows
  rw [List.length_map, Array.length_toList]; rfl
theorem byteCells_one (b : ByteArray) : ∀ u ∈ byteCells b, u.oneCell' = true := by
  intro u hu
  obtain ⟨_, _, rfl⟩ := List.mem_map.1 hu
  rfl
theorem SatF.bytes {e : TypeId} {b : ByteArray} {vc : List Value} (h : SatF Γ Z B ρ F N st ps vc X tm w) :
    ∃ F', SatF Γ Z B ρ F' N st (.d (.row .own 1 (byteRows b)) :: ps) (.slice (some ⟨w.heap.size, 0, none⟩) b.size (grownCap w b.size 0 e) :: vc) X tm (Lib.bytesWorld w e b) := by
  have h1 := (SatF.pushPlain (byteCells b) (byteCells_one b) h).drew
  rw [← byteRows_cells] at h1
  have hge := grownCap_ge w b.size 0 e
  have hsz : (Lib.bytesCells w e b).size = grownCap w b.size 0 e := by
    simp only [Lib.bytesCells, Array.size_append, Array.size_map, Array.size_replicate]
    have : b.data.size = b.size := rfl
    omega
  have hnew := Lib.bytesWorld_at_new w e b
  have hblk : Blk (Lib.bytesWorld w e b) w.heap.size (grownCap w b.size 0 e) := by
    refine ⟨_, _, _, hnew, ?_, by omega⟩
    intro o ho hh
    simp only at hh
    omega
  have hrange : (Lib.bytesWorld w e b).rangeAt w.heap.size 0 (byteCells b) := by
    intro j u hj
    have hlt : j < b.size := by
      have := (List.getElem?_eq_some_iff.1 hj).1
      rwa [byteCells_length] at this
    have := Lib.bytesWorld_cell w e b j hlt
    rw [Nat.zero_add, this]
    simp only [byteCells, List.getElem?_map, Option.map_eq_some_iff] at hj
    obtain ⟨c, h1, rfl⟩ := hj
    simp [List.getD, h1]
  have hold : ∀ k, k < w.heap.size → (Lib.bytesWorld w e b).heap[k]? = w.heap[k]? := fun k hk => Lib.bytesWorld_at_old w e b k hk
  have hg : Grow w.drew (Lib.bytesWorld w e b) := by
    refine ⟨rfl, rfl, rfl, by rw [Lib.bytesWorld_size]; exact Nat.le_succ _, ?_⟩
    rintro k n ⟨arr, ty, fz, a1, a2, a3⟩
    exact ⟨arr, ty, fz, by rw [hold k ((Array.getElem?_eq_some_iff.1 a1).1)]; exact a1, a2, a3⟩
  refine h1.freshG (by rw [byteRows_cells, List.length_map]) hg hold hrange hblk ?_ (fun _ => trivial)
  intro G hG
  have hD := RelVs.toD hG
  have hrow := RelDs.row (m := .own) (s := 1) (c := grownCap w b.size 0 e) (xs := byteRows b) (Z := Z) (B := B) hD hrange trivial (fun _ => by simpa using hblk) (fun hh => absurd rfl hh) (by
    intro x hx
    obtain ⟨c, _, rfl⟩ := List.mem_map.1 hx
    rfl) (by rw [byteRows_length]; exact hge) .nil
  have := RelVs.d (ρ := ρ) hrow .nil
  rw [byteRows_length] at this
  simpa [Md.foot] using this
theorem convert_ok {o : Oper} {nm : Nat} {v : V} {R W : List Res} {src dst : TypeId} {x : Operand} (ho : o.op = .convert src dst x) (hr : Run ((fetchP x).bind (convertP P src dst)) st v st' R W) : OpOk P o nm st v st' := by
  rintro Γ N a w ⟨Z, B, ρ, F, h⟩ hf K Q hk
  obtain ⟨va, st1, R1, W1, R2, W2, r1, r2, -, -⟩ := hr.bind_inv
  obtain ⟨F1, h1⟩ := fetch_sound r1 (rfl : a.tmps = a.tmps) h
  unfold convertP at r2
  obtain ⟨ts, st2, R3, W3, R4, W4, r3, r4, -, -⟩ := r2.bind_inv
  obtain ⟨g1, rfl⟩ := ofO_run r3
  obtain ⟨td, st3, R5, W5, R6, W6, r5, r6, -, -⟩ := r4.bind_inv
  obtain ⟨g2, rfl⟩ := ofO_run r5
  obtain ⟨d1, i1, z1, hu1, hi1, hz1, rfl⟩ := tyOf_spec g1
  obtain ⟨d2, i2, z2, hu2, hi2, hz2, rfl⟩ := tyOf_spec g2
  dsimp only at r6
  split at r6
  · rename_i k1 k2 k3 n e1 e2
    have e1 := ofK_int e1
    have e2 := ofK_int e2
    subst e1; subst e2
    cases r6
    obtain ⟨G, g⟩ := h1.head
    have e3 := rel_p g
    obtain ⟨F2, h2⟩ := h1.plain (val' := .int k2 (k2.wrap n)) rfl
    refine wp_value (w' := w) (val := .int k2 (k2.wrap n)) ?_ (hk _ _ h2.toNx.satP)
    simp [execOp, ho, e3, convert, run_underlying hu1, run_underlying hu2, Conv.intToInt]
  · rename_i b e1 e2
    have e1 := ofK_str e1
    have e2 := ofK_str e2
    subst e1; subst e2
    cases r6
    obtain ⟨G, g⟩ := h1.head
    have e3 := rel_p g
    refine wp_value (w' := w) (val := a.eval x) ?_ (hk _ _ h1.toNx.satP)
    simp [execOp, ho, e3, convert, run_underlying hu1, run_underlying hu2]
  · rename_i e b e1 e2
    have e1 := ofK_str e1
    have e2 := ofK_slice e2
    subst e1; subst e2
    obtain ⟨te, st4, R7, W7, R8, W8, r7, r8, -, -⟩ := r6.bind_inv
    obtain ⟨g3, rfl⟩ := ofO_run r7
    obtain ⟨d3, i3, z3, hu3, hi3, hz3, rfl⟩ := tyOf_spec g3
    cases r8 with
    | req g4 r9 =>
      cases r9
      obtain ⟨g4, g5⟩ := g4
      have g4 := ofK_int g4
      subst g4
      obtain ⟨G, g⟩ := h1.head
      have e3 := rel_p g
      obtain ⟨F2, h2⟩ := h1.drop
      obtain ⟨F3, h3⟩ := h2.bytes (e := e) (b := b)
      refine wp_value (w' := Lib.bytesWorld w e b) ?_ (hk _ _ h3.toNx.satP)
      simp [execOp, ho, e3, Lib.run_convert_string_bytes w src dst e b hu1 hu2 hu3]
  · rename_i e e1 e2
    have e1 := ofK_slice e1
    have e2 := ofK_str e2
    subst e1; subst e2
    obtain ⟨te, st4, R7, W7, R8, W8, r7, r8, -, -⟩ := r6.bind_inv
    obtain ⟨g3, rfl⟩ := ofO_run r7
    obtain ⟨d3, i3, z3, hu3, hi3, hz3, rfl⟩ := tyOf_spec g3
    cases r8 with
    | req g4 r9 =>
      obtain ⟨g4, g5, g6⟩ := g4
      have g4 := ofK_int g4
      subst g4
      obtain ⟨ys, st5, R9, W9, R10, W10, r10, r11, -, -⟩ := r9.bind_inv
      obtain ⟨l, st6, R11, W11, R12, W12, r12, r13, -, -⟩ := r11.bind_inv
      obtain ⟨g7, rfl⟩ := ofO_run r12
      cases r13
      obtain ⟨F2, news, X', h2, hsrc, hy, hnl, hone, hstr, hstr2⟩ := rows_sound (ps := []) (vc := []) r10 g5 h1
      obtain ⟨Fa, Fm, Fc, e0, q1, q2, q3, n1, n2, n3⟩ := SatF.partsAt (pre := []) (mid := ys.flatten.map V.d) (ps := []) (va := []) (vm := news) (vc := []) (by simpa using h2) rfl (by rw [List.length_map, flatten_length hy, hnl])
      obtain ⟨ns, rfl, rfl⟩ := rowsBytes_cells (RelVs.toD q2) g7
      have hrun := run_convert_bytes_any w src e dst hu1 hu3 hu2 hsrc (by rw [hnl, Nat.mul_one]) (fun b hb => by
        obtain ⟨b', hb'⟩ := hstr2.1 ⟨b, hb⟩
        rw [hb'] at g6
        cases g6)
      have h3 : SatF Γ Z B ρ F2 N st' ((ys.flatten.map V.d) ++ []) (ns.map (Value.int .u8) ++ []) X' a.tmps w := h2
      obtain ⟨F3, _, h4⟩ := h3.rehand (ps' := []) (vals' := []) (X' := []) (Fp' := []) .nil trivial (fun _ => by simp) (by simp)
      have h5 := h4.push (v := .d (.p (.string (strOfNums ns)))) (val := .string (strOfNums ns)) (.d (.p rfl .nil) .nil) trivial
      refine wp_value (w' := w) (val := .string (strOfNums ns)) ?_ (hk _ _ ?_)
      · simp [execOp, ho, hrun]
      · exact h5.toNx.satP
  · cases r6
end
def Md.lend (_ : Md) : Md := .bor
mutual
def D.lend : D → D
  | .p v => .p v
  | .row m s xs => .row m.lend s (D.lendLL xs)
  | .ptr m cs => .ptr m.lend (D.lendL cs)
def D.lendL : List D → List D
  | [] => []
  | x :: xs => x.lend :: D.lendL xs
def D.lendLL : List (List D) → List (List D)
  | [] => []
  | x :: xs => D.lendL x :: D.lendLL xs
end
theorem D.lendL_map : ∀ xs : List D, D.lendL xs = xs.map D.lend
  | [] => rfl
  | x :: xs => by rw [D.lendL, D.lendL_map xs]; rfl
theorem D.lendLL_map : ∀ xs : List (List D), D.lendLL xs = xs.map fun r => r.map D.lend
  | [] => rfl
  | x :: xs => by rw [D.lendLL, D.lendLL_map xs, D.lendL_map]; rfl
theorem D.lend_flatten (xs : List (List D)) : D.lendL xs.flatten = (D.lendLL xs).flatten := by
  rw [D.lendL_map, D.lendLL_map, List.map_flatten]
theorem Md.lend_foot (m : Md) (b : Nat) : m.lend.foot b = [] := rfl
def Md.nb : Md → Bool
  | .bor => false
  | _ => true
mutual
def D.nb : D → Bool
  | .p _ => true
  | .row m _ xs => m.nb && D.nbLL xs
  | .ptr m cs => m.nb && D.nbL cs
def D.nbL : List D → Bool
  | [] => true
  | x :: xs => x.nb && D.nbL xs
def D.nbLL : List (List D) → Bool
  | [] => true
  | x :: xs => D.nbL x && D.nbLL xs
end
theorem D.nbL_append : ∀ xs ys : List D, D.nbL (xs ++ ys) = (D.nbL xs && D.nbL ys)
  | [], ys => by simp [D.nbL]
  | x :: xs, ys => by simp [D.nbL, D.nbL_append xs ys, Bool.and_assoc]
theorem D.nb_flatten : ∀ xs : List (List D), D.nbL xs.flatten = D.nbLL xs
  | [] => rfl
  | x :: xs => by rw [List.flatten_cons, D.nbL_append, D.nbLL, D.nb_flatten xs]
mutual
def V.nb : V → Bool
  | .d x => x.nb
  | .sl _ _ _ _ => true
  | .mp _ _ _ _ => true
  | .agg cs => V.nbL cs
  | .clo _ cs => V.nbL cs
  | .tup cs => V.nbL cs
  | .arr _ xs => V.nbLL xs
def V.nbL : List V → Bool
  | [] => true
  | x :: xs => x.nb && V.nbL xs
def V.nbLL : List (List V) → Bool
  | [] => true
  | x :: xs => V.nbL x && V.nbLL xs
end
theorem V.nbL_append : ∀ xs ys : List V, V.nbL (xs ++ ys) = (V.nbL xs && V.nbL ys)
  | [], ys => by simp [V.nbL]
  | x :: xs, ys => by simp [V.nbL, V.nbL_append xs ys, Bool.and_assoc]
theorem V.nb_flatten : ∀ xs : List (List V), V.nbL xs.flatten = V.nbLL xs
  | [] => rfl
  | x :: xs => by rw [List.flatten_cons, V.nbL_append, V.nbLL, V.nb_flatten xs]
def C.nb : C → Bool
  | .v x => x.nb
  | .o _ xs => V.nbLL xs
section
variable {Z B B2 : Zone} {w : World} {ρ ρ2 : Names}
theorem RelDs.lend {ds : List D} {vs : List Value} {F : List Nat} (h : RelDs Z B w ds vs F) (hF : ∀ b ∈ F, B2 b) (hB : ∀ b, B b → B2 b) (hZ : ∀ b, Z b → B2 b) : RelDs Z B2 w (D.lendL ds) vs [] := by
  induction h with
  | nil => exact .nil
  | p h1 _ ih => exact .p h1 (ih hF)
  | none _ ih => exact .none (ih hF)
  | @row m s b o c xs us F ds vs G h1 h2 h3 h4 h5 h6 h7 h8 ih1 ih2 =>
    have i1 := ih1 (fun x hx => hF x (by simp [hx]))
    have i2 := ih2 (fun x hx => hF x (by simp [hx]))
    rw [D.lend_flatten] at i1
    have hl : (D.lendLL xs).length = xs.length := by rw [D.lendLL_map, List.length_map]
    have := RelDs.row (m := m.lend) (s := s) (c := c) i1 h2 (by
      cases m with
      | own => exact hF b (by simp [Md.foot])
      | frz => exact hZ b h3
      | bor => exact hB b h3) (fun e => by cases e) (fun _ => rfl) (by
      intro x hx
      rw [D.lendLL_map] at hx
      obtain ⟨y, hy, rfl⟩ := List.mem_map.1 hx
      simpa using h6 y hy) (by rw [hl]; exact h7) i2
    rw [hl, Md.lend_foot] at this
    exact this
  | @ptr m b o cs us F ds vs G h1 h2 h3 h4 h5 h6 ih1 ih2 =>
    have i1 := ih1 (fun x hx => hF x (by simp [hx]))
    have i2 := ih2 (fun x hx => hF x (by simp [hx]))
    have := RelDs.ptr (m := m.lend) i1 h2 (by
      cases m with
      | own => exact hF b (by simp [Md.foot])
      | frz => exact hZ b h3
      | bor => exact hB b h3) (fun e => by cases e) (fun _ => rfl) i2
    rw [Md.lend_foot] at this
    exact this
theorem RelDs.nb {ds : List D} {vs : List Value} {F : List Nat} (h : RelDs Z B w ds vs F) (hn : D.nbL ds = true) : RelDs Z B2 w ds vs F := by
  induction h with
  | nil => exact .nil
  | p h1 _ ih => exact .p h1 (ih (by simpa [D.nbL, D.nb] using hn))
  | none _ ih => exact .none (ih (by simp [D.nbL, D.nb] at hn; exact hn.2))
  | @row m s b o c xs us F ds vs G h1 h2 h3 h4 h5 h6 h7 h8 ih1 ih2 =>
    simp only [D.nbL, D.nb, Bool.and_eq_true] at hn
    exact .row (ih1 (by rw [D.nb_flatten]; exact hn.1.2)) h2 (by
      cases m with
      | own => trivial
      | frz => exact h3
      | bor => cases hn.1.1) h4 h5 h6 h7 (ih2 hn.2)
  | @ptr m b o cs us F ds vs G h1 h2 h3 h4 h5 h6 ih1 ih2 =>
    simp only [D.nbL, D.nb, Bool.and_eq_true] at hn
    exact .ptr (ih1 hn.1.2) h2 (by
      cases m with
      | own => trivial
      | frz => exact h3
      | bor => cases hn.1.1) h4 h5 (ih2 hn.2)
theorem RelVs.nb {ds : List V} {vs : List Value} {F : List Nat} (h : RelVs Z B w ρ ds vs F) (hn : V.nbL ds = true) : RelVs Z B2 w ρ ds vs F := by
  induction h with
  | nil => exact .nil
  | d h1 _ ih => 
    simp only [V.nbL, V.nb, Bool.and_eq_true] at hn
    exact .d (h1.nb (by simp [D.nbL, hn.1])) (ih hn.2)
  | sl h1 _ ih => simp only [V.nbL, V.nb, Bool.and_eq_true] at hn; exact .sl h1 (ih hn.2)
  | mp h1 _ ih => simp only [V.nbL, V.nb, Bool.and_eq_true] at hn; exact .mp h1 (ih hn.2)
  | agg h1 h2 h3 ih1 ih2 => simp only [V.nbL, V.nb, Bool.and_eq_true] at hn; exact .agg (ih1 hn.1) h2 (ih2 hn.2)
  | clo h1 h3 ih1 ih2 => simp only [V.nbL, V.nb, Bool.and_eq_true] at hn; exact .clo (ih1 hn.1) (ih2 hn.2)
  | tup h1 h3 ih1 ih2 => simp only [V.nbL, V.nb, Bool.and_eq_true] at hn; exact .tup (ih1 hn.1) (ih2 hn.2)
  | arr h1 h2 h3 h4 h5 h6 ih1 ih2 => simp only [V.nbL, V.nb, Bool.and_eq_true] at hn; exact .arr (ih1 (by rw [V.nb_flatten]; exact hn.1)) h2 h3 h4 h5 (ih2 hn.2)
end
mutual
def V.ren (π : Nat → Nat) : V → V
  | .d x => .d x
  | .sl r s i n => .sl (π r) s i n
  | .mp r s i j => .mp (π r) s i j
  | .agg cs => .agg (V.renL π cs)
  | .clo f cs => .clo f (V.renL π cs)
  | .tup cs => .tup (V.renL π cs)
  | .arr s xs => .arr s (V.renLL π xs)
def V.renL (π : Nat → Nat) : List V → List V
  | [] => []
  | x :: xs => x.ren π :: V.renL π xs
def V.renLL (π : Nat → Nat) : List (List V) → List (List V)
  | [] => []
  | x :: xs => V.renL π x :: V.renLL π xs
end
def C.ren (π : Nat → Nat) : C → C
  | .v x => .v (x.ren π)
  | .o s xs => .o s (V.renLL π xs)
theorem V.renL_map (π : Nat → Nat) : ∀ xs : List V, V.renL π xs = xs.map (V.ren π)
  | [] => rfl
  | x :: xs => by rw [V.renL, V.renL_map π xs]; rfl
theorem V.renLL_map (π : Nat → Nat) : ∀ xs : List (List V), V.renLL π xs = xs.map fun r => r.map (V.ren π)
  | [] => rfl
  | x :: xs => by rw [V.renLL, V.renLL_map π xs, V.renL_map]; rfl
theorem V.ren_flatten (π : Nat → Nat) (xs : List (List V)) : V.renL π xs.flatten = (V.renLL π xs).flatten := by
  rw [V.renL_map, V.renLL_map, List.map_flatten]
section
variable {Z B B2 : Zone} {w : World} {ρ ρ2 : Names} {N N2 : Nat → Prop} {π : Nat → Nat}
mutual
theorem V.ren_inN (h : ∀ r, N r → N2 (π r)) : ∀ v : V, v.inN N → (v.ren π).inN N2
  | .d _, _ => trivial
  | .sl r _ _ _, k => h r k
  | .mp r _ _ _, k => h r k
  | .agg cs, k => V.ren_inNs h cs k
  | .clo _ cs, k => V.ren_inNs h cs k
  | .tup cs, k => V.ren_inNs h cs k
  | .arr _ xs, k => V.ren_inNss h xs k
theorem V.ren_inNs (h : ∀ r, N r → N2 (π r)) : ∀ v : List V, V.inNs N v → V.inNs N2 (V.renL π v)
  | [], _ => trivial
  | x :: xs, k => ⟨V.ren_inN h x k.1, V.ren_inNs h xs k.2⟩
theorem V.ren_inNss (h : ∀ r, N r → N2 (π r)) : ∀ v : List (List V), V.inNss N v → V.inNss N2 (V.renLL π v)
  | [], _ => trivial
  | x :: xs, k => ⟨V.ren_inNs h x k.1, V.ren_inNss h xs k.2⟩
end
theorem SlOk.ren {r r2 s i n c : Nat} {A : Option Addr} (h : SlOk w ρ r s i n A c) (hρ : ρ2 r2 = ρ r) : SlOk w ρ2 r2 s i n A c := by
  rcases h with h | ⟨b, o, h1, h2⟩
  · exact .inl h
  · exact .inr ⟨b, o, hρ.trans h1, h2⟩
theorem RelVs.ren {ds : List V} {vs : List Value} {F : List Nat} (h : RelVs Z B w ρ ds vs F) (hN : V.inNs N ds) (hρ : ∀ r, N r → ρ2 (π r) = ρ r) : RelVs Z B w ρ2 (V.renL π ds) vs F := by
  induction h with
  | nil => exact .nil
  | d h1 _ ih => exact .d h1 (ih hN.2)
  | sl h1 _ ih => exact .sl (h1.ren (hρ _ hN.1)) (ih hN.2)
  | mp h1 _ ih => exact .mp ((hρ _ hN.1).trans h1) (ih hN.2)
  | agg h1 h2 h3 ih1 ih2 => exact .agg (ih1 hN.1) h2 (ih2 hN.2)
  | clo h1 h3 ih1 ih2 => exact .clo (ih1 hN.1) (ih2 hN.2)
  | tup h1 h3 ih1 ih2 => exact .tup (ih1 hN.1) (ih2 hN.2)
  | @arr s b xs us F ds vs G h1 h2 h3 h4 h5 h6 ih1 ih2 =>
    have hl : (V.renLL π xs).length = xs.length := by rw [V.renLL_map, List.length_map]
    have := RelVs.arr (s := s) (xs := V.renLL π xs) (by rw [← V.ren_flatten]; exact ih1 (inNss_flatten hN.1)) h2 h3 (by rw [hl]; exact h4) (by
      intro x hx
      rw [V.renLL_map] at hx
      obtain ⟨y, hy, rfl⟩ := List.mem_map.1 hx
      simpa using h5 y hy) (ih2 hN.2)
    rw [hl] at this
    exact this
theorem RelVs.unren : ∀ {ds' : List V} {vs : List Value} {F : List Nat}, RelVs Z B w ρ2 ds' vs F → ∀ ds : List V, V.renL π ds = ds' → V.inNs N ds → (∀ r, N r → ρ r = ρ2 (π r)) → RelVs Z B w ρ ds vs F := by
  intro ds' vs F h
  induction h with
  | nil =>
    intro ds e hN hρ
    cases ds with
    | nil => exact .nil
    | cons x xs => cases e
  | d h1 _ ih =>
    intro ds e hN hρ
    cases ds with
    | nil => cases e
    | cons x xs =>
      simp only [V.renL, List.cons.injEq] at e
      obtain ⟨e1, e2⟩ := e
      cases x <;> simp only [V.ren, reduceCtorEq, V.d.injEq] at e1
      subst e1
      exact .d h1 (ih xs e2 hN.2 hρ)
  | sl h1 _ ih =>
    intro ds e hN hρ
    cases ds with
    | nil => cases e
    | cons x xs =>
      simp only [V.renL, List.cons.injEq] at e
      obtain ⟨e1, e2⟩ := e
      cases x <;> simp only [V.ren, reduceCtorEq, V.sl.injEq] at e1
      obtain ⟨rfl, rfl, rfl, rfl⟩ := e1
      exact .sl (h1.ren (hρ _ hN.1)) (ih xs e2 hN.2 hρ)
  | mp h1 _ ih =>
    intro ds e hN hρ
    cases ds with
    | nil => cases e
    | cons x xs =>
      simp only [V.renL, List.cons.injEq] at e
      obtain ⟨e1, e2⟩ := e
      cases x <;> simp only [V.ren, reduceCtorEq, V.mp.injEq] at e1
      obtain ⟨rfl, rfl, rfl, rfl⟩ := e1
      exact .mp ((hρ _ hN.1).trans h1) (ih xs e2 hN.2 hρ)
  | agg h1 h2 h3 ih1 ih2 =>
    intro ds e hN hρ
    cases ds with
    | nil => cases e
    | cons x xs =>
      simp only [V.renL, List.cons.injEq] at e
      obtain ⟨e1, e2⟩ := e
      cases x <;> simp only [V.ren, reduceCtorEq, V.agg.injEq] at e1
      exact .agg (ih1 _ e1 hN.1 hρ) h2 (ih2 xs e2 hN.2 hρ)
  | clo h1 h3 ih1 ih2 =>
    intro ds e hN hρ
    cases ds with
    | nil => cases e
    | cons x xs =>
      simp only [V.renL, List.cons.injEq] at e
      obtain ⟨e1, e2⟩ := e
      cases x <;> simp only [V.ren, reduceCtorEq, V.clo.injEq] at e1
      obtain ⟨rfl, e1⟩ := e1
      exact .clo (ih1 _ e1 hN.1 hρ) (ih2 xs e2 hN.2 hρ)
  | tup h1 h3 ih1 ih2 =>
    intro ds e hN hρ
    cases ds with
    | nil => cases e
    | cons x xs =>
      simp only [V.renL, List.cons.injEq] at e
      obtain ⟨e1, e2⟩ := e
      cases x <;> simp only [V.ren, reduceCtorEq, V.tup.injEq] at e1
      exact .tup (ih1 _ e1 hN.1 hρ) (ih2 xs e2 hN.2 hρ)
  | @arr s b xs0 us F ds0 vs G h1 h2 h3 h4 h5 h6 ih1 ih2 =>
    intro ds e hN hρ
    cases ds with
    | nil => cases e
    | cons x xs =>
      simp only [V.renL, List.cons.injEq] at e
      obtain ⟨e1, e2⟩ := e
      cases x <;> simp only [V.ren, reduceCtorEq, V.arr.injEq] at e1
      rename_i s' xs'
      obtain ⟨rfl, rfl⟩ := e1
      have hl : (V.renLL π xs').length = xs'.length := by rw [V.renLL_map, List.length_map]
      rw [hl] at h4
      have := RelVs.arr (ih1 _ (V.ren_flatten π xs') (inNss_flatten hN.1) hρ) h2 h3 h4 (by
        intro x hx
        have := h5 (x.map (V.ren π)) (by rw [V.renLL_map]; exact List.mem_map_of_mem hx)
        simpa using this) (ih2 xs e2 hN.2 hρ)
      rw [← hl] at this
      exact this
end
def stO (objs : List C) : St
  | .s _ => none
  | .r i => objs[i]?
structure Con (P : Program) (f : FuncId) (args : List V) (objs : List C) (v : V) (objs' : List C) : Prop where
  enters : ∀ (a : Array Value) (w : World), (callFunc f a).run P w = .ok (.enter f a) w
  inA : V.inNs (· < objs.length) args
  inO : ∀ c ∈ objs, c.inN (· < objs.length)
  inV : v.inN (· < objs.length)
  inO' : ∀ c ∈ objs', c.inN (· < objs.length)
  len : objs'.length = objs.length
  call : ∀ (Γ : Ctx) (vals : List Value) (w : World), Γ.k = objs.length → SatP Γ (· < objs.length) (stO objs) args vals #[] w →
    Calls P f vals.toArray w fun e w' => ∃ val N, e = .returned val ∧ SatP Γ N (stO objs') [v] [val] #[] w'
inductive ArgOk (st : St) (π : Nat → Nat) (L : Nat → Prop) : List V → List V → Prop
  | nil : ArgOk st π L [] []
  | ren {y : V} {xs ys : List V} : ArgOk st π L xs ys → ArgOk st π L (y.ren π :: xs) (y :: ys)
  | d {x : D} {xs ys : List V} : x.lin = false → ArgOk st π L xs ys → ArgOk st π L (.d x :: xs) (.d x.lend :: ys)
  | agg {as bs xs ys : List V} : ArgOk st π L as bs → ArgOk st π L xs ys → ArgOk st π L (.agg as :: xs) (.agg bs :: ys)
  | sl {r s i n : Nat} {rs : List (List V)} {ds : List (List D)} {xs ys : List V} : L r → st (.r r) = some (.o s rs) → i + n ≤ rs.length → undd ((rs.drop i).take n) = some ds →
      ArgOk st π L xs ys → ArgOk st π L (.sl r s i n :: xs) (.d (.row .bor s (D.lendLL ds)) :: ys)
  | mp {r s i j : Nat} {rs : List (List V)} {row : List V} {ds : List D} {xs ys : List V} : L r → st (.r r) = some (.o s rs) → rs[i]? = some row → j ≤ row.length → undd.unddR (row.drop j) = some ds →
      ArgOk st π L xs ys → ArgOk st π L (.mp r s i j :: xs) (.d (.ptr .bor (D.lendL ds)) :: ys)
section
variable {P : Program} {Γ : Ctx} {Z B : Zone} {ρ : Names} {F : Ix → List Nat} {N : Nat → Prop} {st st' : St} {ps : List V} {vals : List Value} {X : List Nat} {tm : Array Value} {w : World}
theorem unddR_map : ∀ {r : List V} {d : List D}, undd.unddR r = some d → r = d.map V.d := by
  intro r
  induction r with
  | nil => intro d h; simp [undd.unddR] at h; subst h; rfl
  | cons x r ih =>
    intro d h
    cases x <;> simp [undd.unddR] at h
    obtain ⟨a, h1, rfl⟩ := h
    simp [ih h1]
mutual
theorem inN_true : ∀ v : V, v.inN fun _ => True
  | .d _ => trivial
  | .sl _ _ _ _ => trivial
  | .mp _ _ _ _ => trivial
  | .agg cs => inNs_true cs
  | .clo _ cs => inNs_true cs
  | .tup cs => inNs_true cs
  | .arr _ xs => inNss_true xs
theorem inNs_true : ∀ v : List V, V.inNs (fun _ => True) v
  | [] => trivial
  | x :: xs => ⟨inN_true x, inNs_true xs⟩
theorem inNss_true : ∀ v : List (List V), V.inNss (fun _ => True) v
  | [] => trivial
  | x :: xs => ⟨inNs_true x, inNss_true xs⟩
end
theorem args_in {π : Nat → Nat} {L : Nat → Prop} {k : Nat} {B2 : Zone} (h : SatF Γ Z B ρ F N st ps vals X tm w)
    (hB2 : ∀ b, B b → B2 b) (hL : ∀ r b, L r → b ∈ F (some (.r r)) → B2 b) :
    ∀ {xs ys : List V} {vs : List Value} {G : List Nat}, ArgOk st π L xs ys → RelVs Z B w ρ xs vs G → V.inNs (· < k) ys → ∃ G', RelVs Z B2 w (fun i => ρ (π i)) ys vs G' ∧ (∀ b, G'.count b ≤ G.count b) := by
  have self : ∀ {ds : List V} {vs : List Value} {G : List Nat}, RelVs Z B w ρ ds vs G → RelVs Z B2 w ρ ds vs G := fun h1 =>
    h1.mono (N := fun _ => True) (inNs_true _) (fun _ _ => rfl) (fun _ _ => rfl) (fun _ _ => rfl) (fun _ _ => rfl) (fun _ x => x) hB2 (fun _ _ x => x)
  intro xs ys vs G ha
  induction ha generalizing vs G with
  | nil =>
    intro hr _
    cases hr
    exact ⟨[], .nil, by simp⟩
  | @ren y xs ys ha ih =>
    intro hr hn
    obtain ⟨v, vs', G1, G2, rfl, rfl, k1, k2⟩ := hr.cons_split
    obtain ⟨G', h1, h2⟩ := ih k2 hn.2
    have h3 : RelVs Z B2 w (fun i => ρ (π i)) [y] [v] G1 := RelVs.unren (π := π) (N := (· < k)) (self k1) [y] rfl ⟨hn.1, trivial⟩ (fun _ _ => rfl)
    exact ⟨G1 ++ G', RelVs.append h3 h1, fun b => by simp only [List.count_append]; have := h2 b; omega⟩
  | @d x xs ys hx ha ih =>
    intro hr hn
    obtain ⟨v, vs', G1, G2, rfl, rfl, k1, k2⟩ := hr.cons_split
    obtain ⟨G', h1, h2⟩ := ih k2 hn.2
    have e : G1 = [] := lin_V k1 (by simp [V.linL, V.lin, hx])
    subst e
    have q : RelDs Z B w [x] [v] [] := RelVs.toD (ds := [x]) k1
    have q2 := q.lend (B2 := B2) (by simp) hB2 (fun b hb => hB2 b (h.zB b hb))
    have h3 : RelVs Z B2 w (fun i => ρ (π i)) [.d x.lend] [v] [] := RelVs.ofD (ds := [x.lend]) q2
    exact ⟨[] ++ G', RelVs.append h3 h1, fun b => by have := h2 b; simpa using this⟩
  | @agg as bs xs ys ha1 ha ih1 ih =>
    intro hr hn
    obtain ⟨v, vs', G1, G2, rfl, rfl, k1, k2⟩ := hr.cons_split
    obtain ⟨G', h1, h2⟩ := ih k2 hn.2
    cases k1 with
    | agg t1 t2 t3 =>
      cases t3
      obtain ⟨G3, h3, h4⟩ := ih1 t1 hn.1
      have := RelVs.agg h3 t2 h1
      exact ⟨G3 ++ G', this, fun b => by have := h2 b; have := h4 b; simp only [List.count_append, List.count_nil]; omega⟩
  | @sl r s i n rs ds xs ys hl hs hi hu ha ih =>
    intro hr hn
    obtain ⟨v, vs', G1, G2, rfl, rfl, k1, k2⟩ := hr.cons_split
    obtain ⟨G', h1, h2⟩ := ih k2 hn.2
    have e1 := undd_spec hu
    have h3 : RelVs Z B2 w (fun i => ρ (π i)) [.d (.row .bor s (D.lendLL ds))] [v] [] := by
      have hlen : ds.length = n := by
        have := congrArg List.length e1
        rw [dd_length] at this
        simp at this
        omega
      have hll : (D.lendLL ds).length = n := by rw [D.lendLL_map, List.length_map, hlen]
      cases k1 with
      | @sl _ _ _ _ c A _ _ _ t1 t2 =>
        rcases t1 with ⟨a1, a2⟩ | ⟨b, o, a1, a2, a3, a4⟩
        · have : ds = [] := List.length_eq_zero_iff.1 (by omega)
          subst this
          subst a1; subst a2
          exact .d (.none .nil) .nil
        · obtain ⟨us, Gg, hF, hrel, h0, hrange, hblk, huni, hin⟩ := h.objAt hs a1
          rw [segs_of hi] at hrel
          obtain ⟨u1, u23, Ga, Gb, rfl, rfl, q1, q23⟩ := hrel.split
          obtain ⟨u2, u3, Gc, Gd, rfl, rfl, q2, q3⟩ := q23.split
          have hl1 : u1.length = i * s := by rw [← q1.length, flatten_take_length huni (by omega)]
          rw [rangeAt_append, rangeAt_append, hl1] at hrange
          rw [e1, dd_flatten] at q2
          have q2' := RelVs.toD q2
          have q4 := q2'.lend (B2 := B2) (fun x hx => hL r x hl (by rw [hF]; simp [hx])) hB2 (fun b hb => hB2 b (h.zB b hb))
          rw [D.lend_flatten] at q4
          subst a2
          have hrow := RelDs.row (m := .bor) (s := s) (c := c) q4 hrange.2.1 (hL r b hl (by rw [hF]; simp)) (fun e => by cases e) (fun _ => rfl) (by
            intro x hx
            rw [D.lendLL_map] at hx
            obtain ⟨y, hy, rfl⟩ := List.mem_map.1 hx
            have hm : y.map V.d ∈ dd ds := List.mem_map_of_mem hy
            rw [← e1] at hm
            have := huni _ (List.mem_of_mem_drop (List.mem_of_mem_take hm))
            simpa using this) (by rw [hll]; exact a4) .nil
          rw [hll] at hrow
          have := RelVs.d (ρ := fun i => ρ (π i)) hrow .nil
          simpa [Md.foot] using this
    exact ⟨[] ++ G', RelVs.append h3 h1, fun b => by simp only [List.count_append]; have := h2 b; simp; omega⟩
  | @mp r s i j rs row ds xs ys hl hs hi hj hu ha ih =>
    intro hr hn
    obtain ⟨v, vs', G1, G2, rfl, rfl, k1, k2⟩ := hr.cons_split
    obtain ⟨G', h1, h2⟩ := ih k2 hn.2
    have e1 := unddR_map hu
    have h3 : RelVs Z B2 w (fun i => ρ (π i)) [.d (.ptr .bor (D.lendL ds))] [v] [] := by
      cases k1 with
      | @mp _ _ _ _ b o _ _ _ t1 t2 =>
        obtain ⟨us, Gg, hF, hrel, h0, hrange, hblk, huni, hin⟩ := h.objAt hs t1
        obtain ⟨u1, u2, u3, Ga, Gb, Gc, rfl, rfl, hl1, e, q1, q2, q3, hr2⟩ := seg_of (row := row) (j := j) (n := row.length - j) hrel hrange huni hi (by omega)
        have e2 : (row.drop j).take (row.length - j) = row.drop j := List.take_of_length_le (by simp)
        rw [e2, e1] at q2
        have q4 := (RelVs.toD q2).lend (B2 := B2) (fun x hx => hL r x hl (by rw [hF]; simp [hx])) hB2 (fun b hb => hB2 b (h.zB b hb))
        have hrow := RelDs.ptr (m := .bor) q4 hr2 (hL r b hl (by rw [hF]; simp)) (fun e => by cases e) (fun _ => rfl) .nil
        have := RelVs.d (ρ := fun i => ρ (π i)) hrow .nil
        simpa [Md.foot] using this
    exact ⟨[] ++ G', RelVs.append h3 h1, fun b => by simp only [List.count_append]; have := h2 b; simp; omega⟩
theorem call_core {f : FuncId} {xs ys : List V} {objs objs' : List C} {v : V} {π : Nat → Nat} {L : Nat → Prop} {vc : List Value}
    (hc : Con P f ys objs v objs') (h : SatF Γ Z B ρ F N st (xs ++ ps) (vals ++ vc) X tm w) (hl : vals.length = xs.length)
    (ha : ArgOk st π L xs ys) (hobj : ∀ i c, objs[i]? = some c → st (.r (π i)) = some (c.ren π))
    (hinj : ∀ i j, i < objs.length → j < objs.length → π i = π j → i = j) (hapart : ∀ i, i < objs.length → ¬ L (π i))
    (hnb : (∀ r, ¬ L r) ∨ (v.nb = true ∧ ∀ c ∈ objs', c.nb = true))
    (hst : ∀ i c, objs'[i]? = some c → st' (.r (π i)) = some (c.ren π)) (hst' : ∀ x, (∀ i, i < objs.length → x ≠ .r (π i)) → st' x = st x) :
    Calls P f vals.toArray w fun e w' => ∃ val Z' B' F', e = .returned val ∧ SatF Γ Z' B' ρ F' N st' (v.ren π :: ps) (val :: vc) X tm w' := by
  classical
  obtain ⟨Fa, Fm, Fc, e0, q1, q2, q3, n1, n2, n3⟩ := SatF.partsAt (pre := []) (mid := xs) (ps := ps) (va := []) (vm := vals) (vc := vc) (by simpa using h) rfl hl
  cases q1
  simp only [List.nil_append] at e0
  let LB : Zone := fun b => ∃ r, L r ∧ b ∈ F (some (.r r))
  obtain ⟨G, g1, g2⟩ := args_in (π := π) (L := L) (k := objs.length) (B2 := fun b => B b ∨ LB b) h (fun _ x => .inl x) (fun r b h1 h2 => .inr ⟨r, h1, h2⟩) ha q2 hc.inA
  have gm : ∀ b, b ∈ G → b ∈ F none := fun b hb => by
    have h1 := List.count_pos_iff.2 hb
    have h2 := g2 b
    rw [e0]
    simp only [List.mem_append]
    exact .inl (.inl (List.count_pos_iff.1 (by omega)))
  let M : Zone := fun b => b ∈ G ∨ ∃ i, i < objs.length ∧ b ∈ F (some (.r (π i)))
  have htab : TabW w M (fun b => B b ∨ LB b) := by
    intro x hx
    obtain ⟨t1, t2, t, z, t3⟩ := Γ.tab x hx
    have hB := h.zBB _ t1
    refine ⟨.inl hB, ?_, t, z, ?_⟩
    · rintro (hm | ⟨i, hi, hm⟩)
      · exact (h.own none _ (gm _ hm)).1 hB
      · exact (h.own (some (.r (π i))) _ hm).1 hB
    · have hlt : x.1 < Γ.w0.heap.size := (Array.getElem?_eq_some_iff.1 t3).1
      rw [h.frame _ hlt t2]
      exact t3
  let Γ' : Ctx := { w0 := w, M := M, Z := Z, B := fun b => B b ∨ LB b, k := objs.length, ρ := fun i => ρ (π i), tab := htab }
  let F' : Ix → List Nat := fun x => match x with
    | none => G
    | some (.s _) => []
    | some (.r i) => if i < objs.length then F (some (.r (π i))) else []
  have hLne : ∀ i, i < objs.length → ∀ r, L r → r ≠ π i := fun i hi r hr e => hapart i hi (e ▸ hr)
  have hstart : SatP Γ' (· < objs.length) (stO objs) ys vals #[] w := by
    refine ⟨Z, fun b => B b ∨ LB b, fun i => ρ (π i), F', ?_⟩
    refine ⟨?_, ?_, ?_, ?_, ?_, ?_, ?_, fun b hb => .inl (h.zB b hb), ?_, fun b hb => .inl hb, fun b hb => .inl hb, fun b hb => hb, fun b hb => hb, fun _ _ _ => rfl, Grow.refl w, fun _ _ => rfl, fun i hi => hi⟩
    · intro s c hs; cases hs
    · intro r c hs
      have hr : r < objs.length := (List.getElem?_eq_some_iff.1 hs).1
      obtain ⟨h1, h2, h3⟩ := h.obj (π r) _ (hobj r c hs)
      have hinc := hc.inO c (List.mem_of_getElem? hs)
      refine ⟨hr, ?_, hinc⟩
      simp only [F', hr, if_true]
      cases c with
      | v x => cases h2
      | o s rows =>
        simp only [C.ren] at h2
        generalize F (some (.r (π r))) = Fr at h2
        generalize hrr : V.renLL π rows = rows' at h2
        cases h2 with
        | none t1 =>
          have : rows = [] := by
            rw [V.renLL_map] at hrr
            simpa using hrr
          subst this
          exact .none t1
        | some t1 t2 t3 t4 t5 t6 =>
          subst hrr
          have hl : (V.renLL π rows).length = rows.length := by rw [V.renLL_map, List.length_map]
          rw [hl] at t5
          refine .some t1 ?_ t3 t4 t5 (by
            intro x hx
            have := t6 (x.map (V.ren π)) (by rw [V.renLL_map]; exact List.mem_map_of_mem hx)
            simpa using this)
          have t7 := RelVs.unren (ρ := fun i => ρ (π i)) t2 rows.flatten (V.ren_flatten π rows) (inNss_flatten hinc) (fun _ _ => rfl)
          exact t7.mono (N := (· < objs.length)) (inNss_flatten hinc) (fun _ _ => rfl) (fun _ _ => rfl) (fun _ _ => rfl) (fun _ _ => rfl) (fun _ x => x) (fun _ x => .inl x) (fun _ _ x => x)
    · exact ⟨⟨G, by simp [F'], g1⟩, hc.inA⟩
    · intro x hx
      cases x with
      | s n => rfl
      | r i =>
        have : ¬ i < objs.length := fun hi => by
          have : stO objs (.r i) = some objs[i] := List.getElem?_eq_getElem hi
          rw [this] at hx
          cases hx
        simp [F', this]
    · intro x
      cases x with
      | none =>
        have hh := h.nodup none
        rw [e0, List.nodup_iff_count] at hh
        show G.Nodup
        rw [List.nodup_iff_count]
        intro t
        have h1 := hh t
        have h2 := g2 t
        simp only [List.count_append] at h1
        omega
      | some x =>
        cases x with
        | s n => exact List.nodup_nil
        | r i =>
          simp only [F']
          split
          · exact h.nodup _
          · exact List.nodup_nil
    · intro x y hne b hb hby
      have key : ∀ x, b ∈ F' x → (x = none ∧ b ∈ F none) ∨ ∃ i, i < objs.length ∧ x = some (.r i) ∧ b ∈ F (some (.r (π i))) := by
        intro x hb
        cases x with
        | none => exact .inl ⟨rfl, gm b hb⟩
        | some x =>
          cases x with
          | s n => cases hb
          | r i =>
            simp only [F'] at hb
            split at hb
            · rename_i hi; exact .inr ⟨i, hi, rfl, hb⟩
            · cases hb
      rcases key x hb with ⟨rfl, h1⟩ | ⟨i, hi, rfl, h1⟩ <;> rcases key y hby with ⟨rfl, h2⟩ | ⟨j, hj, rfl, h2⟩
      · exact hne rfl
      · exact h.disj none (some (.r (π j))) (by simp) b h1 h2
      · exact h.disj none (some (.r (π i))) (by simp) b h2 h1
      · refine h.disj (some (.r (π i))) (some (.r (π j))) (fun e => hne ?_) b h1 h2
        simp only [Option.some.injEq, Res.r.injEq] at e
        rw [hinj i j hi hj e]
    · intro x b hb
      have key : (b ∈ F none ∨ ∃ i, i < objs.length ∧ b ∈ F (some (.r (π i)))) ∧ M b := by
        cases x with
        | none => exact ⟨.inl (gm b hb), .inl hb⟩
        | some x =>
          cases x with
          | s n => cases hb
          | r i =>
            simp only [F'] at hb
            split at hb
            · rename_i hi; exact ⟨.inr ⟨i, hi, hb⟩, .inr ⟨i, hi, hb⟩⟩
            · cases hb
      obtain ⟨k1, k2⟩ := key
      refine ⟨?_, ?_, .inl k2⟩
      · rintro (hB | ⟨r, hr, hbr⟩)
        · rcases k1 with k1 | ⟨i, hi, k1⟩
          · exact (h.own none b k1).1 hB
          · exact (h.own _ b k1).1 hB
        · rcases k1 with k1 | ⟨i, hi, k1⟩
          · exact h.disj none (some (.r r)) (by simp) b k1 hbr
          · exact h.disj (some (.r (π i))) (some (.r r)) (fun e => hLne i hi r hr (by simpa using e.symm)) b k1 hbr
      · rcases k1 with k1 | ⟨i, hi, k1⟩
        · exact (h.own none b k1).2.1
        · exact (h.own _ b k1).2.1
    · rintro b (hB | ⟨r, hr, hbr⟩)
      · exact h.zone b hB
      · exact (h.own _ b hbr).2.1
  refine Calls.mono (hc.call Γ' vals w rfl hstart) ?_
  rintro e w' ⟨val, N', rfl, Zc, Bc, ρc, Fc', hs⟩
  -- behind the call
  have hLout : ∀ b, LB b → ¬ M b := by
    rintro b ⟨r, hr, hbr⟩ (hm | ⟨i, hi, hm⟩)
    · exact h.disj none (some (.r r)) (by simp) b (gm b hm) hbr
    · exact h.disj (some (.r (π i))) (some (.r r)) (fun e => hLne i hi r hr (by simpa using e.symm)) b hm hbr
  have hLlt : ∀ b, LB b → b < w.heap.size := fun b ⟨r, _, hbr⟩ => (h.own _ b hbr).2.1
  have hLB : ∀ b, LB b → ¬ B b := fun b ⟨r, _, hbr⟩ => (h.own _ b hbr).1
  have hZL : ∀ b, Zc b → ¬ LB b := by
    intro b hz hb
    rcases hs.zOld b hz with h1 | h1 | h1
    · exact hLB b hb (h.zB b h1)
    · exact hLout b hb h1
    · exact absurd (hLlt b hb) (by simpa [Γ'] using Nat.not_lt.2 h1)
  have turn : ∀ {ds : List V} {vs : List Value} {G : List Nat}, RelVs Zc Bc w' ρc ds vs G → V.inNs (· < objs.length) ds → ((∀ r, ¬ L r) ∨ V.nbL ds = true) →
      RelVs Zc (fun b => Bc b ∧ ¬ LB b) w' ρ (V.renL π ds) vs G := by
    intro ds vs G hr hn hb
    have h1 : RelVs Zc (fun b => Bc b ∧ ¬ LB b) w' ρc ds vs G := by
      rcases hb with hb | hb
      · refine hr.mono (N := (· < objs.length)) hn (fun _ _ => rfl) (fun _ _ => rfl) (fun _ _ => rfl) (fun _ _ => rfl) (fun _ x => x) (fun b hB => ⟨hB, ?_⟩) (fun _ _ x => x)
        rintro ⟨r, hr, _⟩
        exact hb r hr
      · exact hr.nb hb
    exact h1.ren hn (fun i hi => (hs.rho i hi).symm)
  obtain ⟨⟨Fv, p1, p2⟩, p3⟩ := hs.pend
  simp only [List.append_nil] at p1
  -- the footprints
  let F2 : Ix → List Nat := fun x => match x with
    | none => (Fv ++ Fc) ++ X
    | some (.s n) => F (some (.s n))
    | some (.r q) => if hq : ∃ i, i < objs.length ∧ π i = q then Fc' (some (.r (Classical.choose hq))) else F (some (.r q))
  have hF2 : ∀ i, i < objs.length → F2 (some (.r (π i))) = Fc' (some (.r i)) := by
    intro i hi
    have hq : ∃ j, j < objs.length ∧ π j = π i := ⟨i, hi, rfl⟩
    have h1 := Classical.choose_spec hq
    simp only [F2, dif_pos hq]
    rw [hinj _ i h1.1 hi h1.2]
  have hF2' : ∀ x, ¬ (x = none ∨ ∃ i, i < objs.length ∧ x = some (.r (π i))) → F2 x = F x := by
    intro x hx
    cases x with
    | none => exact absurd (.inl rfl) hx
    | some x =>
      cases x with
      | s n => rfl
      | r q =>
        have : ¬ ∃ i, i < objs.length ∧ π i = q := fun ⟨i, hi, e⟩ => hx (.inr ⟨i, hi, by rw [e]⟩)
        simp only [F2, dif_neg this]
  have hM : ∀ b, M b → ∃ x, (x = none ∨ ∃ i, i < objs.length ∧ x = some (.r (π i))) ∧ b ∈ F x := by
    rintro b (hb | ⟨i, hi, hb⟩)
    · exact ⟨none, .inl rfl, gm b hb⟩
    · exact ⟨_, .inr ⟨i, hi, rfl⟩, hb⟩
  -- what the callee holds comes from what went in, or is new
  have hfrom : ∀ x b, b ∈ Fc' x → (∃ y, (y = none ∨ ∃ i, i < objs.length ∧ y = some (.r (π i))) ∧ b ∈ F y) ∨ w.heap.size ≤ b := by
    intro x b hb
    rcases (hs.own x b hb).2.2 with h1 | h1
    · exact .inl (hM b h1)
    · exact .inr h1
  have hsize := hs.grow.size
  have hcx : ∀ b, b ∈ Fc ++ X → b ∈ F none ∧ b ∉ G := by
    intro b hb
    refine ⟨by rw [e0]; simp only [List.mem_append] at hb ⊢; grind, fun hg => ?_⟩
    have hh := h.nodup none
    rw [e0, List.nodup_iff_count] at hh
    have h1 := hh b
    have h2 := g2 b
    have h3 := List.count_pos_iff.2 hg
    have h4 := List.count_pos_iff.2 hb
    simp only [List.count_append] at h1 h4
    omega
  have hcxM : ∀ b, b ∈ Fc ++ X → ¬ M b := by
    rintro b hb (hm | ⟨i, hi, hm⟩)
    · exact (hcx b hb).2 hm
    · exact h.disj none (some (.r (π i))) (by simp) b (hcx b hb).1 hm
  have hcxc : ∀ b, b ∈ Fc ++ X → ∀ x, b ∉ Fc' x := by
    intro b hb x hx
    rcases (hs.own x b hx).2.2 with h1 | h1
    · exact hcxM b hb h1
    · have := (h.own none b (hcx b hb).1).2.1
      exact absurd this (by simpa [Γ'] using Nat.not_lt.2 h1)
  have hBsub : ∀ b, B b → Bc b ∧ ¬ LB b := fun b hb => ⟨hs.zBB b (.inl hb), fun hl => hLB b hl hb⟩
  have hcxB : ∀ b, b ∈ Fc ++ X → ¬ (Bc b ∧ ¬ LB b) := by
    rintro b hb ⟨h1, h2⟩
    rcases hs.zoneOld b h1 with (h3 | h3) | h3 | h3
    · exact (h.own none b (hcx b hb).1).1 h3
    · exact h2 h3
    · exact hcxM b hb h3
    · have := (h.own none b (hcx b hb).1).2.1
      exact absurd this (by simpa [Γ'] using Nat.not_lt.2 h3)
  have hFcB : ∀ x b, b ∈ Fc' x → b < w'.heap.size ∧ ¬ (Bc b ∧ ¬ LB b) := fun x b hb => ⟨(hs.own x b hb).2.1, fun hh => (hs.own x b hb).1 hh.1⟩
  have hcheap : ∀ b, b < w.heap.size → ¬ M b → w'.heap[b]? = w.heap[b]? := fun b hb hm => hs.frame b hb hm
  refine ⟨val, Zc, fun b => Bc b ∧ ¬ LB b, F2, rfl, ?_⟩
  refine h.update (fun x => x = none ∨ ∃ i, i < objs.length ∧ x = some (.r (π i))) hs.grow ?_ ?_ hF2' (fun _ _ hs => ⟨hs, rfl⟩) (fun hh => absurd (.inl rfl) hh) (fun _ x => x) (fun _ _ => rfl)
    (fun b hb => hs.zZ b hb) hBsub (fun b hb => ⟨hs.zB b hb, hZL b hb⟩) ?_ ?_ ?_ ?_ ?_ ?_ ?_ ?_ ?_ ?_
  · intro b hb hn
    refine hcheap b hb (fun hm => ?_)
    obtain ⟨x, hx, hbx⟩ := hM b hm
    exact hn x hx hbx
  · intro x hx
    exact hst' x (fun i hi e => hx (.inr ⟨i, hi, by rw [e]⟩))
  · rintro b ⟨h1, h2⟩
    rcases hs.zoneOld b h1 with (h3 | h3) | h3 | h3
    · exact .inl h3
    · exact absurd h3 h2
    · exact .inr ⟨hs.zone b h1, .inl (hM b h3)⟩
    · exact .inr ⟨hs.zone b h1, .inr h3⟩
  · intro b hb
    rcases hs.zOld b hb with h3 | h3 | h3
    · exact .inl h3
    · exact .inr (.inl (hM b h3))
    · exact .inr (.inr h3)
  · rintro s c (hh | ⟨i, _, hh⟩) <;> cases hh
  · rintro r c (hh | ⟨i, hi, hh⟩) hc'
    · cases hh
    · simp only [Option.some.injEq, Res.r.injEq] at hh
      subst hh
      have hi' : i < objs'.length := by rw [hc.len]; exact hi
      have hget : objs'[i]? = some objs'[i] := List.getElem?_eq_getElem hi'
      rw [hst i _ hget] at hc'
      simp only [Option.some.injEq] at hc'
      subst hc'
      have hin := hc.inO' objs'[i] (List.getElem_mem hi')
      obtain ⟨_, k2, _⟩ := hs.obj i objs'[i] hget
      have hNr : ∀ j, j < objs.length → N (π j) := fun j hj => (h.obj (π j) _ (hobj j _ (List.getElem?_eq_getElem hj))).1
      refine ⟨hNr i hi, ?_, ?_⟩
      · rw [hF2 i hi]
        have hnb' : (∀ r, ¬ L r) ∨ objs'[i].nb = true := hnb.imp id (fun hh => hh.2 _ (List.getElem_mem hi'))
        generalize objs'[i] = c at k2 hin hnb'
        cases c with
        | v x => cases k2
        | o s rows =>
          simp only [C.ren]
          generalize Fc' (some (.r i)) = Fr at k2
          cases k2 with
          | none t1 => exact .none (by rw [show ρ (π i) = ρc i from (hs.rho i hi).symm]; exact t1)
          | some t1 t2 t3 t4 t5 t6 =>
            have hl : (V.renLL π rows).length = rows.length := by rw [V.renLL_map, List.length_map]
            refine .some (by rw [show ρ (π i) = ρc i from (hs.rho i hi).symm]; exact t1) ?_ t3 t4 (by rw [hl]; exact t5) (by
              intro x hx
              rw [V.renLL_map] at hx
              obtain ⟨y, hy, rfl⟩ := List.mem_map.1 hx
              simpa using t6 y hy)
            rw [← V.ren_flatten]
            exact turn t2 (inNss_flatten hin) (hnb'.imp id (fun hh => by rw [V.nb_flatten]; exact hh))
      · generalize objs'[i] = c at hin
        cases c with
        | v x => exact V.ren_inN hNr x hin
        | o s rows => exact V.ren_inNss hNr rows hin
  · intro _
    have hNr : ∀ j, j < objs.length → N (π j) := fun j hj => (h.obj (π j) _ (hobj j _ (List.getElem?_eq_getElem hj))).1
    refine ⟨⟨Fv ++ Fc, rfl, ?_⟩, V.ren_inN hNr v hc.inV, n3⟩
    have t1 := turn p2 ⟨hc.inV, trivial⟩ (hnb.imp id (fun hh => by simp [V.nbL, hh.1]))
    refine RelVs.append (a := [v.ren π]) t1 ?_
    refine q3.mono n3 (fun _ _ => rfl) (fun b hb => ?_) (fun b hb => ?_) (fun b hb => ?_) (fun b hb => hs.zZ b hb) hBsub hs.grow.blk
    · exact hcheap b (h.own none b (hcx b (by simp [hb])).1).2.1 (hcxM b (by simp [hb]))
    · refine hcheap b (h.zone b (h.zB b hb)) (fun hm => ?_)
      obtain ⟨x, _, hbx⟩ := hM b hm
      exact (h.own x b hbx).1 (h.zB b hb)
    · refine hcheap b (h.zone b hb) (fun hm => ?_)
      obtain ⟨x, _, hbx⟩ := hM b hm
      exact (h.own x b hbx).1 hb
  · rintro x (hh | ⟨i, hi, hh⟩) hn
    · cases hh
    · simp only [Option.some.injEq] at hh
      subst hh
      have hi' : i < objs'.length := by rw [hc.len]; exact hi
      rw [hst i _ (List.getElem?_eq_getElem hi')] at hn
      cases hn
  · rintro x (rfl | ⟨i, hi, rfl⟩)
    · show ((Fv ++ Fc) ++ X).Nodup
      have hh := h.nodup none
      have hv := hs.nodup none
      rw [p1] at hv
      rw [e0] at hh
      rw [List.append_assoc, List.nodup_append]
      refine ⟨hv, ?_, ?_⟩
      · rw [List.nodup_iff_count] at hh ⊢; intro t; have hh := hh t; simp only [List.count_append, List.count_cons, List.count_nil] at hh ⊢; omega
      · intro a ha b hb e
        subst e
        exact hcxc a hb none (by rw [p1]; exact ha)
    · rw [hF2 i hi]; exact hs.nodup _
  · rintro x y (rfl | ⟨i, hi, rfl⟩) (rfl | ⟨j, hj, rfl⟩) hne b hb hby
    · exact hne rfl
    · rw [hF2 j hj] at hby
      have hb' : b ∈ Fv ∨ b ∈ Fc ++ X := by simpa [F2, or_assoc] using hb
      rcases hb' with hb' | hb'
      · exact hs.disj none (some (.r j)) (by simp) b (by rw [p1]; exact hb') hby
      · exact hcxc b hb' _ hby
    · rw [hF2 i hi] at hb
      have hb' : b ∈ Fv ∨ b ∈ Fc ++ X := by simpa [F2, or_assoc] using hby
      rcases hb' with hb' | hb'
      · exact hs.disj none (some (.r i)) (by simp) b (by rw [p1]; exact hb') hb
      · exact hcxc b hb' _ hb
    · rw [hF2 i hi] at hb
      rw [hF2 j hj] at hby
      refine hs.disj (some (.r i)) (some (.r j)) (fun e => hne ?_) b hb hby
      simp only [Option.some.injEq, Res.r.injEq] at e
      rw [e]
  · rintro x (rfl | ⟨i, hi, rfl⟩) b hb
    · have hb' : b ∈ Fv ∨ b ∈ Fc ++ X := by simpa [F2, or_assoc] using hb
      rcases hb' with hb' | hb'
      · exact hfrom none b (by rw [p1]; exact hb')
      · exact .inl ⟨none, .inl rfl, (hcx b hb').1⟩
    · rw [hF2 i hi] at hb
      exact hfrom _ b hb
  · rintro x (rfl | ⟨i, hi, rfl⟩) b hb
    · have hb' : b ∈ Fv ∨ b ∈ Fc ++ X := by simpa [F2, or_assoc] using hb
      rcases hb' with hb' | hb'
      · exact hFcB none b (by rw [p1]; exact hb')
      · exact ⟨Nat.lt_of_lt_of_le (h.own none b (hcx b hb').1).2.1 hsize, hcxB b hb'⟩
    · rw [hF2 i hi] at hb
      exact hFcB _ b hb
end
end Go.Proofs.YtdlaplgofgklnaaGreat.L