/- WHAT IS PROVED: the abstract cuts, lengths, loads, stores and new variables tell what the model's do. Conditions: none. -/
import Derived.Test.YtdoboiiilcgbnaaL10
namespace Go.Proofs.Ytdoboiiilcgbnaa.L
set_option linter.unusedVariables false
set_option linter.unusedSimpArgs false

section
variable {P : Program} {Γ : Ctx} {Z B : Zone} {ρ : Names} {F : Ix → List Nat} {N : Nat → Prop} {st st' : St} {ps : List V} {vals : List Value} {X : List Nat} {tm : Array Value} {w : World}

theorem segs_ofD {xs : List (List D)} {i m : Nat} (h : i + m ≤ xs.length) :
    xs.flatten = (xs.take i).flatten ++ (((xs.drop i).take m).flatten ++ (xs.drop (i + m)).flatten) := by
  rw [← List.flatten_append, ← List.flatten_append]
  congr 1
  rw [← List.drop_drop, List.take_append_drop, List.take_append_drop]

theorem RelVs.at {ds : List V} {vs : List Value} {G : List Nat} (h : RelVs Z B w ρ ds vs G) {i : Nat} {v : V} (hi : ds[i]? = some v) :
    ∃ val G', vs[i]? = some val ∧ RelV Z B w ρ v val G' ∧ (∀ x, G'.count x ≤ G.count x) := by
  obtain ⟨G1, G2, rfl, k1⟩ := h.dropTo i
  have hlt := (List.getElem?_eq_some_iff.1 hi).1
  have e : ds.drop i = v :: ds.drop (i + 1) := by
    rw [List.drop_eq_getElem_cons hlt]
    congr 1
    exact (List.getElem?_eq_some_iff.1 hi).2
  rw [e] at k1
  obtain ⟨val, vs', Gx, Gy, e1, rfl, k2, k3⟩ := k1.cons_split
  refine ⟨val, Gx, ?_, k2, fun x => by simp only [List.count_append]; omega⟩
  have := congrArg List.head? e1
  simpa [List.head?_drop] using this

theorem extract_ok {o : Oper} {nm : Nat} {v : V} {R W : List Res} {x : Operand} {i : Nat} (ho : o.op = .extract x i)
    (hr : Run ((fetchP x).bind fun v => match v with
    | .tup vs => (Prog.ofO vs[i]?).bind fun v => .ret v
    | _ => .fail) st v st' R W) : OpOk P o nm st v st' := by
  rintro Γ N a w ⟨Z, B, ρ, F, h⟩ hf K Q hk
  obtain ⟨va, st1, R1, W1, R2, W2, r1, r2, -, -⟩ := hr.bind_inv
  obtain ⟨F1, h1⟩ := fetch_sound r1 (rfl : a.tmps = a.tmps) h
  split at r2
  · rename_i cs
    obtain ⟨vv, st2, R3, W3, R4, W4, r3, r4, -, -⟩ := r2.bind_inv
    obtain ⟨g1, rfl⟩ := ofO_run r3
    cases r4
    obtain ⟨Ga, Gh, eF, ga, gh, n1, n2⟩ := h1.headF
    generalize hx : a.eval x = val at ga h1
    cases ga with
    | @tup _ us FF _ _ _ t1 t2 =>
      cases t2
      obtain ⟨val', G', e1, k1, k2⟩ := t1.at g1
      obtain ⟨F4, h6⟩ := h1.turnF (v' := v) (val' := val') eF gh k1 (by simpa using k2) (by
        have := inNs_iff.1 (show V.inNs N cs from n1)
        exact this v (List.mem_of_getElem? g1)) n2
      refine wp_value (w' := w) ?_ (hk _ _ h6.toNx.satP)
      simp [execOp, ho, hx, Instr.extract, e1]
  · cases r2

theorem makeFunc_ok {o : Oper} {nm : Nat} {v : V} {R W : List Res} {f : FuncId} {first captured : Array Operand} (ho : o.op = .makeFunc (.func f) first captured)
    (hr : Run (if first.size = 0 then (fetchAll captured.toList).bind fun cs => .ret (.clo f cs) else .fail) st v st' R W) : OpOk P o nm st v st' := by
  rintro Γ N a w ⟨Z, B, ρ, F, h⟩ hf K Q hk
  split at hr
  · rename_i hfirst
    obtain ⟨cs, st1, R1, W1, R2, W2, r1, r2, -, -⟩ := hr.bind_inv
    cases r2
    have key : ∀ (xs : List Operand) (cs : List V) (st st1 : St) (R W : List Res) (F : Ix → List Nat) (ps : List V) (vals : List Value), Run (fetchAll xs) st cs st1 R W → SatF Γ Z B ρ F N st ps vals [] a.tmps w →
        ∃ F', SatF Γ Z B ρ F' N st1 (cs ++ ps) (xs.map a.eval ++ vals) [] a.tmps w := by
      intro xs
      induction xs with
      | nil =>
        intro cs st st1 R W F ps vals hr h
        simp only [fetchAll] at hr
        cases hr
        exact ⟨F, h⟩
      | cons x xs ih =>
        intro cs st st1 R W F ps vals hr h
        simp only [fetchAll] at hr
        obtain ⟨v1, st2, R3, W3, R4, W4, r3, r4, -, -⟩ := hr.bind_inv
        obtain ⟨vs, st3, R5, W5, R6, W6, r5, r6, -, -⟩ := r4.bind_inv
        cases r6
        obtain ⟨F1, h1⟩ := fetch_sound r3 (rfl : a.tmps = a.tmps) h
        obtain ⟨F2, h2⟩ := ih vs st2 st1 _ _ F1 _ _ r5 h1
        have hl := h2.lenPend
        have hl1 := h1.lenPend
        have hlx : (xs.map a.eval).length = vs.length := by
          simp only [List.length_append, List.length_cons, List.length_map] at hl hl1 ⊢
          omega
        obtain ⟨F3, h3⟩ := SatF.front (pre := vs) (mid := [v1]) (va := xs.map a.eval) (vm := [a.eval x]) (by simpa using h2) hlx rfl
        exact ⟨F3, by simpa using h3⟩
    obtain ⟨F1, h1⟩ := key _ _ _ _ _ _ F [] [] r1 h
    simp only [List.append_nil] at h1
    obtain ⟨⟨Fp, p1, p2⟩, p3⟩ := h1.pend
    obtain ⟨F2, _, h2⟩ := h1.rehand (ps' := [.clo f cs]) (vals' := [.func (.func f) #[] (captured.map a.eval)]) (X' := []) (Fp' := Fp ++ [])
      (by
        have := RelVs.clo (f := f) p2 (RelVs.nil (Z := Z) (B := B) (w := w) (ρ := ρ))
        have e : (captured.toList.map a.eval).toArray = captured.map a.eval := by apply Array.ext'; simp
        rwa [e] at this) ⟨p3, trivial⟩ (by rw [p1]; simp) (by rw [p1]; simp)
    refine wp_value (w' := w) ?_ (hk _ _ h2.toNx.satP)
    have e0 : first = #[] := by simpa using hfirst
    subst e0
    simp [execOp, ho, Instr.makeFunc]
  · cases hr

theorem len_ok {o : Oper} {nm : Nat} {v : V} {R W : List Res} {x : Operand} {t : TypeId} (ho : o.op = .call { callee := .builtin .len, args := #[x], argTypes := #[t] })
    (hr : Run ((fetchP x).bind (lenP P t)) st v st' R W) : OpOk P o nm st v st' := by
  rintro Γ N a w ⟨Z, B, ρ, F, h⟩ hf K Q hk
  obtain ⟨va, st1, R1, W1, R2, W2, r1, r2, -, -⟩ := hr.bind_inv
  obtain ⟨F1, h1⟩ := fetch_sound r1 (rfl : a.tmps = a.tmps) h
  obtain ⟨ty, st2, R3, W3, R4, W4, r3, r4, -, -⟩ := r2.bind_inv
  obtain ⟨g1, rfl⟩ := ofO_run r3
  obtain ⟨d, i, z, hu, hi, hz, rfl⟩ := tyOf_spec g1
  have fin : ∀ n : Nat, st' = st2 → v = .int n → (Builtin.len_ #[t] o.type #[a.eval x]).run P w = .ok (goInt n) w → o.wp P a w K Q := by
    intro n e1 e2 e3
    subst e1; subst e2
    obtain ⟨F4, h6⟩ := h1.plain (val' := goInt n) rfl
    refine wp_value (w' := w) (val := goInt n) ?_ (hk _ _ h6.toNx.satP)
    simp [execOp, ho, resolve, invoke, builtin, e3]
  obtain ⟨Ga, ga⟩ := h1.head
  have lens : ∀ n, lenOf va = some n → ∃ A c, a.eval x = .slice A n c := by
    intro n hn
    unfold lenOf at hn
    generalize a.eval x = val at ga ⊢
    split at hn
    · simp only [Option.some.injEq] at hn; subst hn
      cases ga with
      | d t1 t2 =>
        cases t2
        cases t1 with
        | none => exact ⟨_, _, rfl⟩
        | row => exact ⟨_, _, rfl⟩
    · simp only [Option.some.injEq] at hn; subst hn
      have := rel_p ga; subst this
      exact ⟨_, _, rfl⟩
    · simp only [Option.some.injEq] at hn; subst hn
      cases ga with
      | sl t1 t2 => cases t2; exact ⟨_, _, rfl⟩
    · simp only [Option.some.injEq] at hn; subst hn
      cases ga with
      | arr => exact ⟨_, _, rfl⟩
    · cases hn
  dsimp only at r4
  split at r4
  · rename_i n e hk'
    have := ofK_array hk'; subst this
    cases r4
    exact fin n rfl rfl (by simp [Builtin.len_, run_underlying hu])
  · rename_i e hk'
    have := ofK_slice hk'; subst this
    obtain ⟨n, st3, R5, W5, R6, W6, r5, r6, -, -⟩ := r4.bind_inv
    obtain ⟨g2, rfl⟩ := ofO_run r5
    cases r6
    obtain ⟨A, c, e1⟩ := lens n g2
    exact fin n rfl rfl (by rw [e1]; simp [Builtin.len_, run_underlying hu])
  · rename_i hk'
    have := ofK_str hk'; subst this
    obtain ⟨n, st3, R5, W5, R6, W6, r5, r6, -, -⟩ := r4.bind_inv
    obtain ⟨g2, rfl⟩ := ofO_run r5
    cases r6
    unfold lenStr at g2
    split at g2
    · simp only [Option.some.injEq] at g2
      subst g2
      have := rel_p ga
      exact fin _ rfl rfl (by rw [this]; simp [Builtin.len_, run_underlying hu])
    · cases g2
  · cases r4

theorem minmax_ok {o : Oper} {nm : Nat} {v : V} {R W : List Res} {x y : Operand} {ts : Array TypeId} {mx : Bool} (ho : o.op = .call { callee := .builtin (if mx then .max else .min), args := #[x, y], argTypes := ts })
    (hr : Run ((fetchP x).bind fun a => (fetchP y).bind fun b => minmaxP mx a b) st v st' R W) : OpOk P o nm st v st' := by
  rintro Γ N a w ⟨Z, B, ρ, F, h⟩ hf K Q hk
  obtain ⟨va, st1, R1, W1, R2, W2, r1, r2, -, -⟩ := hr.bind_inv
  obtain ⟨vb, st2, R3, W3, R4, W4, r3, r4, -, -⟩ := r2.bind_inv
  obtain ⟨F1, h1⟩ := fetch_sound r1 (rfl : a.tmps = a.tmps) h
  obtain ⟨F2, h2⟩ := fetch_sound r3 (rfl : a.tmps = a.tmps) h1
  obtain ⟨Gb, gb⟩ := h2.head
  obtain ⟨F3, h3⟩ := h2.drop
  obtain ⟨Ga, ga⟩ := h3.head
  unfold minmaxP at r4
  split at r4
  · cases r4
    rename_i k n k' m
    have ea := rel_p ga
    have eb := rel_p gb
    obtain ⟨F4, h6⟩ := h3.plain (val' := .int k (if (if mx then decide (m > n) else decide (m < n)) = true then m else n)) rfl
    refine wp_value (w' := w) ?_ (hk _ _ h6.toNx.satP)
    cases mx
    · simp [execOp, ho, resolve, invoke, builtin, ea, eb, Builtin.min_, Builtin.min2]
    · simp [execOp, ho, resolve, invoke, builtin, ea, eb, Builtin.max_, Builtin.max2]
  · cases r4

/-! ### Cuts -/
def OptRel (Z B : Zone) (w : World) (ρ : Names) (a : Act) : Option Operand → Option V → Prop
  | none, none => True
  | some x, some v => ∃ G, RelV Z B w ρ v (a.eval x) G
  | _, _ => False

theorem fetchO_sound {a : Act} {x : Option Operand} {v : Option V} {R W : List Res} (hr : Run (fetchO x) st v st' R W) (ha : a.tmps = tm) (h : SatF Γ Z B ρ F N st ps vals X tm w) :
    ∃ F', SatF Γ Z B ρ F' N st' ps vals X tm w ∧ OptRel Z B w ρ a x v := by
  cases x with
  | none => simp only [fetchO] at hr; cases hr; exact ⟨F, h, trivial⟩
  | some x =>
    simp only [fetchO] at hr
    obtain ⟨v1, st1, R1, W1, R2, W2, r1, r2, -, -⟩ := hr.bind_inv
    cases r2
    obtain ⟨F1, h1⟩ := fetch_sound r1 ha h
    obtain ⟨G, g⟩ := h1.head
    obtain ⟨F2, h2⟩ := h1.drop
    exact ⟨F2, h2, G, g⟩

theorem bound_sound {n dflt k : Nat} {x : Option Operand} {v : Option V} {a : Act} {R W : List Res} (hr : Run (boundP n dflt v) st k st' R W)
    (h : OptRel Z B w ρ a x v) :
    st' = st ∧ ((x.map a.eval = none ∧ k = dflt) ∨ (∃ kk, x.map a.eval = some (.int kk k) ∧ k ≤ n)) := by
  cases v with
  | none =>
    simp only [boundP] at hr
    cases hr
    cases x with
    | none => exact ⟨rfl, .inl ⟨rfl, rfl⟩⟩
    | some x => exact h.elim
  | some v =>
    simp only [boundP] at hr
    cases x with
    | none => exact h.elim
    | some x =>
      obtain ⟨G, g⟩ := h
      obtain ⟨i, st1, R1, W1, R2, W2, r1, r2, -, -⟩ := hr.bind_inv
      obtain ⟨g1, rfl⟩ := ofO_run r1
      cases r2 with
      | req q1 q2 =>
        cases q2
        obtain ⟨kk, e⟩ := asInt_val g1 g
        refine ⟨rfl, .inr ⟨kk, ?_, by omega⟩⟩
        simp [e]
        omega

theorem run_sliceBound {i : Int} {kk : IntKind} {n k : Nat} {code : BoundsCode} (e : i = k) (h : k ≤ n) : (Instr.sliceBound (.int kk i) n code).run P w = .ok k w := by
  subst e
  have h2 : (k : Int) ≤ n := by omega
  simp [Instr.sliceBound, asIntOf, h2]

theorem run_sliceBounds {isS : Bool} {len cap h l : Nat} {lo hi : Option Value} (hh : (hi = none ∧ h = len) ∨ (∃ kk, hi = some (.int kk h) ∧ h ≤ len)) (hc : len ≤ cap)
    (hl : (lo = none ∧ l = 0) ∨ (∃ kk, lo = some (.int kk l) ∧ l ≤ h)) : (Instr.sliceBounds isS len cap lo hi none).run P w = .ok (l, h, cap) w := by
  unfold Instr.sliceBounds
  rcases hh with ⟨rfl, rfl⟩ | ⟨kk, rfl, h1⟩ <;> rcases hl with ⟨rfl, rfl⟩ | ⟨kl, rfl, h2⟩
  · simp
  · simp [run_sliceBound rfl h2]
  · simp [run_sliceBound rfl (Nat.le_trans h1 hc)]
  · simp [run_sliceBound rfl h2, run_sliceBound rfl (Nat.le_trans h1 hc)]

/-- A cut of rows that are not alone held. -/
theorem row_cut {m : Md} {s l h : Nat} {xs : List (List D)} {val : Value} {G : List Nat} (hm : m ≠ .own) (hv : RelV Z B w ρ (.d (.row m s xs)) val G) (h1 : h ≤ xs.length) (h2 : l ≤ h) :
    ∃ A c, val = .slice A xs.length c ∧ xs.length ≤ c ∧ RelV Z B w ρ (.d (.row m s ((xs.drop l).take (h - l)))) (.slice (if c = l then A else A.map (·.add (l * s))) (h - l) (c - l)) [] := by
  cases hv with
  | d t1 t2 =>
    cases t2
    cases t1 with
    | none t3 =>
      cases t3
      simp at h1
      subst h1
      have : l = 0 := by omega
      subst this
      exact ⟨_, _, rfl, Nat.le_refl _, by simpa using RelVs.d (RelDs.none (m := m) (s := s) .nil) (RelVs.nil (Z := Z) (B := B) (w := w) (ρ := ρ))⟩
    | @row _ _ b o c _ us FF _ _ _ q1 q2 q3 q4 q5 q6 q7 q8 =>
      cases q8
      refine ⟨_, c, rfl, q7, ?_⟩
      have := q5 hm
      subst this
      by_cases hcl : c = l
      · have e1 : h - l = 0 := by omega
        have e2 : c - l = 0 := by omega
        rw [e1, e2]
        simpa using RelVs.d (RelDs.none (m := m) (s := s) .nil) (RelVs.nil (Z := Z) (B := B) (w := w) (ρ := ρ))
      · have e := segs_ofD (xs := xs) (i := l) (m := h - l) (by omega)
        rw [e] at q1
        obtain ⟨u1, u23, G1, G23, rfl, e1, k1, k23⟩ := q1.split
        obtain ⟨u2, u3, G2, G3, rfl, e2, k2, k3⟩ := k23.split
        obtain ⟨rfl, rfl⟩ : G1 = [] ∧ G23 = [] := by simpa using e1.symm
        obtain ⟨rfl, rfl⟩ : G2 = [] ∧ G3 = [] := by simpa using e2.symm
        have hl : u1.length = l * s := by rw [← k1.length, flatten_take_length q6 (by omega)]
        rw [rangeAt_append, rangeAt_append, hl] at q2
        have hlen : ((xs.drop l).take (h - l)).length = h - l := by simp; omega
        have := RelVs.d (RelDs.row (m := m) (s := s) (c := c - l) (G := []) k2 q2.2.1 q3 (fun e => absurd e hm) (fun _ => rfl)
          (fun x hx => q6 x (List.mem_of_mem_drop (List.mem_of_mem_take hx))) (by rw [hlen]; omega) .nil) (RelVs.nil (Z := Z) (B := B) (w := w) (ρ := ρ))
        have hf : m.foot b = [] := by cases m <;> first | rfl | exact absurd rfl hm
        rw [hf, hlen] at this
        rw [if_neg hcl]
        simpa [Addr.add_mid] using this

theorem slice_ok {o : Oper} {nm : Nat} {v : V} {R W : List Res} {x : Operand} {t : TypeId} {lo hi : Option Operand} (ho : o.op = .slice t x lo hi none)
    (hr : Run ((fetchN nm x).bind fun v => (fetchO lo).bind fun l => (fetchO hi).bind fun h => sliceP P t v l h) st v st' R W) : OpOk P o nm st v st' := by
  rintro Γ N a w ⟨Z, B, ρ, F, h⟩ hf K Q hk
  obtain ⟨va, st1, R1, W1, R2, W2, r1, r2, -, -⟩ := hr.bind_inv
  obtain ⟨vl, st2, R3, W3, R4, W4, r3, r4, -, -⟩ := r2.bind_inv
  obtain ⟨vh, st3, R5, W5, R6, W6, r5, r6, -, -⟩ := r4.bind_inv
  obtain ⟨ρ', F1, h1⟩ := fetchN_sound r1 (hf nm (by omega) (by omega)) rfl h
  obtain ⟨F2, h2, bl⟩ := fetchO_sound (a := a) r3 rfl h1
  obtain ⟨F3, h3, bh⟩ := fetchO_sound (a := a) r5 rfl h2
  obtain ⟨Ga, Gh, eF, ga, gh, n1, n2⟩ := h3.headF
  have fin : ∀ (val' : Value) (G' : List Nat), st' = st3 → (Instr.sliceAt t (a.eval x) (lo.map a.eval) (hi.map a.eval) none).run P w = .ok val' w → RelV Z B w ρ' v val' G' → (∀ x, G'.count x ≤ Ga.count x) → v.inN (fun r => N r ∨ r = nm) → o.wp P a w K Q := by
    intro val' G' e1 e2 e3 e4 e5
    subst e1
    obtain ⟨F4, h6⟩ := h3.turnF (v' := v) (val' := val') eF gh e3 e4 e5 n2
    refine wp_value (w' := w) ?_ (hk _ _ (h6.weakN Nx_one).satP)
    simp [execOp, ho, e2]
  have bounds : ∀ {n l h' : Nat} {stA stB stC : St} {RA WA RB WB : List Res}, Run (boundP n n vh) stA h' stB RA WA → Run (boundP h' 0 vl) stB l stC RB WB →
      stC = stA ∧ h' ≤ n ∧ l ≤ h' ∧ (∀ isS cap, n ≤ cap → (Instr.sliceBounds isS n cap (lo.map a.eval) (hi.map a.eval) none).run P w = .ok (l, h', cap) w) := by
    intro n l h' stA stB stC RA WA RB WB ra rb
    obtain ⟨e1, b1⟩ := bound_sound (a := a) (x := hi) ra bh
    obtain ⟨e2, b2⟩ := bound_sound (a := a) (x := lo) rb bl
    have c1 : h' ≤ n := by rcases b1 with ⟨_, rfl⟩ | ⟨_, _, h⟩ <;> omega
    have c2 : l ≤ h' := by rcases b2 with ⟨_, rfl⟩ | ⟨_, _, h⟩ <;> omega
    exact ⟨e2.trans e1, c1, c2, fun isS cap hc => run_sliceBounds b1 hc b2⟩
  unfold sliceP at r6
  split at r6
  · rename_i b
    obtain ⟨ty, st4, R7, W7, R8, W8, r7, r8, -, -⟩ := r6.bind_inv
    obtain ⟨g1, rfl⟩ := ofO_run r7
    obtain ⟨d, i, z, hu, hi', hz, rfl⟩ := tyOf_spec g1
    cases r8 with
    | req q1 q2 =>
      have := ofK_str q1; subst this
      obtain ⟨h', st5, R9, W9, R10, W10, r9, r10, -, -⟩ := q2.bind_inv
      obtain ⟨l, st6, R11, W11, R12, W12, r11, r12, -, -⟩ := r10.bind_inv
      cases r12
      obtain ⟨e1, c1, c2, c3⟩ := bounds r9 r11
      have ea := rel_p ga
      refine fin (.string (b.extract l h')) [] e1 ?_ (.d (.p rfl .nil) .nil) (by simp) trivial
      simp [Instr.sliceAt, run_underlying hu, ea, Instr.slice, c3 false b.size (Nat.le_refl _)]
  · rename_i r s i n
    obtain ⟨ty, st4, R7, W7, R8, W8, r7, r8, -, -⟩ := r6.bind_inv
    obtain ⟨g1, rfl⟩ := ofO_run r7
    obtain ⟨d, i', z, hu, hi', hz, rfl⟩ := tyOf_spec g1
    dsimp only at r8
    split at r8
    · rename_i e hk'
      have := ofK_slice hk'; subst this
      obtain ⟨te, st5, R9, W9, R10, W10, r9, r10, -, -⟩ := r8.bind_inv
      obtain ⟨g2, rfl⟩ := ofO_run r9
      obtain ⟨d2, i2, z2, hu2, hi2, hz2, rfl⟩ := tyOf_spec g2
      cases r10 with
      | req q1 q2 =>
        obtain ⟨h', st6, R11, W11, R12, W12, r11, r12, -, -⟩ := q2.bind_inv
        obtain ⟨l, st7, R13, W13, R14, W14, r13, r14, -, -⟩ := r12.bind_inv
        cases r14
        obtain ⟨e1, c1, c2, c3⟩ := bounds r11 r13
        dsimp only at q1
        generalize hx : a.eval x = val at ga
        cases ga with
        | @sl _ _ _ _ c A _ _ _ t1 t2 =>
          cases t2
          have hnc : n ≤ c := by rcases t1 with ⟨a1, a2⟩ | ⟨_, _, _, _, _, a4⟩ <;> omega
          refine fin (.slice (if c = l then A else A.map (·.add (l * i2.size))) (h' - l) (c - l)) [] e1 ?_ ?_ (by simp) n1
          · simp [Instr.sliceAt, run_underlying hu, hx, Instr.slice, c3 true c hnc, sizeOf, typeInfo, hi2]
          · refine .sl ?_ .nil
            rcases t1 with ⟨a1, a2⟩ | ⟨b, oo, a1, a2, a3, a4⟩
            · exact .inl ⟨by omega, by omega⟩
            · by_cases hcl : c = l
              · exact .inl ⟨by omega, by omega⟩
              · refine .inr ⟨b, oo, a1, ?_, a3.le ?_, by omega⟩
                · rw [if_neg hcl, a2]
                  simp only [Option.map_some, Addr.add_mid, ← q1, Nat.add_mul]
                  congr 2
                  omega
                · have : i + l + (c - l) = i + c := by omega
                  rw [this]
                  exact Nat.le_refl _
    · cases r8
  · rename_i s xs
    obtain ⟨ty, st4, R7, W7, R8, W8, r7, r8, -, -⟩ := r6.bind_inv
    obtain ⟨g1, rfl⟩ := ofO_run r7
    obtain ⟨d, i', z, hu, hi', hz, rfl⟩ := tyOf_spec g1
    dsimp only at r8
    split at r8
    · rename_i e hk'
      have := ofK_slice hk'; subst this
      obtain ⟨te, st5, R9, W9, R10, W10, r9, r10, -, -⟩ := r8.bind_inv
      obtain ⟨g2, rfl⟩ := ofO_run r9
      obtain ⟨d2, i2, z2, hu2, hi2, hz2, rfl⟩ := tyOf_spec g2
      cases r10 with
      | req q1 q2 =>
        obtain ⟨h', st6, R11, W11, R12, W12, r11, r12, -, -⟩ := q2.bind_inv
        obtain ⟨l, st7, R13, W13, R14, W14, r13, r14, -, -⟩ := r12.bind_inv
        cases r14
        obtain ⟨e1, c1, c2, c3⟩ := bounds r11 r13
        dsimp only at q1
        obtain ⟨A, c, hx, hnc, hrel⟩ := row_cut (by simp) ga c1 c2
        refine fin (.slice (if c = l then A else A.map (·.add (l * i2.size))) (h' - l) (c - l)) [] e1 ?_ (by rw [← q1]; exact hrel) (by simp) trivial
        simp [Instr.sliceAt, run_underlying hu, hx, Instr.slice, c3 true c hnc, sizeOf, typeInfo, hi2]
    · cases r8
  · rename_i s xs
    obtain ⟨ty, st4, R7, W7, R8, W8, r7, r8, -, -⟩ := r6.bind_inv
    obtain ⟨g1, rfl⟩ := ofO_run r7
    obtain ⟨d, i', z, hu, hi', hz, rfl⟩ := tyOf_spec g1
    dsimp only at r8
    split at r8
    · rename_i e hk'
      have := ofK_slice hk'; subst this
      obtain ⟨te, st5, R9, W9, R10, W10, r9, r10, -, -⟩ := r8.bind_inv
      obtain ⟨g2, rfl⟩ := ofO_run r9
      obtain ⟨d2, i2, z2, hu2, hi2, hz2, rfl⟩ := tyOf_spec g2
      cases r10 with
      | req q1 q2 =>
        obtain ⟨h', st6, R11, W11, R12, W12, r11, r12, -, -⟩ := q2.bind_inv
        obtain ⟨l, st7, R13, W13, R14, W14, r13, r14, -, -⟩ := r12.bind_inv
        cases r14
        obtain ⟨e1, c1, c2, c3⟩ := bounds r11 r13
        dsimp only at q1
        obtain ⟨A, c, hx, hnc, hrel⟩ := row_cut (by simp) ga c1 c2
        refine fin (.slice (if c = l then A else A.map (·.add (l * i2.size))) (h' - l) (c - l)) [] e1 ?_ (by rw [← q1]; exact hrel) (by simp) trivial
        simp [Instr.sliceAt, run_underlying hu, hx, Instr.slice, c3 true c hnc, sizeOf, typeInfo, hi2]
    · cases r8
  · cases r6

end
end Go.Proofs.Ytdoboiiilcgbnaa.L
