/- WHAT IS PROVED: a function's contract, out of its walk. Conditions: none. -/
import Derived.Test.YtdoboiiilcgbnaaL23
namespace Go.Proofs.Ytdoboiiilcgbnaa.L
set_option linter.unusedVariables false
set_option linter.unusedSimpArgs false

def entryS : List V → Nat → SL → SL
  | [], _, st => st
  | v :: vs, i, st => entryS vs (i + 1) ((.s i, some (.v v)) :: st)

def entryO : List C → Nat → SL
  | [], _ => []
  | o :: os, i => (.r i, some o) :: entryO os (i + 1)

/-- The value that goes out. -/
def resTo : V → V → Prog Unit
  | .d d, x => (resV 7 x).bind fun d' => .req (d' = d) (.ret ())
  | .agg ts, x => match x with
    | .agg xs => (resRow xs).bind fun ds => .req (ds.map V.d = ts) (.ret ())
    | _ => .fail
  | t, x => .req (x = t) (.ret ())

def retOne (P : Program) (nm : Nat) : ResultVar → V → Prog Unit
  | .tmp t, v => (fetchP (.tmp t)).bind (resTo v)
  | .cell a t, v => (fetchP (.tmp a)).bind fun p => (loadP P t nm p).bind (resTo v)

def retAll (P : Program) (nm : Nat) : List ResultVar → List V → Prog Unit
  | [], [] => .ret ()
  | r :: rs, v :: vs => (retOne P nm r v).bind fun _ => retAll P (nm + 64) rs vs
  | _, _ => .fail

def retP (P : Program) (nm : Nat) : List ResultVar → V → Prog Unit
  | [r], v => retOne P nm r v
  | rs, .tup vs => retAll P nm rs vs
  | _, _ => .fail

def objsAre (st : SL) : Nat → List C → Prop
  | _, [] => True
  | i, o :: os => lk st (.r i) = some o ∧ objsAre st (i + 1) os

def RetW (P : Program) (rs : List ResultVar) (v : V) (objs' : List C) (st : SL) (n : Nat) : Prop := (retP P n rs v).wp st [] [] fun _ st' _ _ => objsAre st' 0 objs'

def retQ (P : Program) (rs : List ResultVar) (v : V) (objs' : List C) : Exit → SL → Nat → Prop
  | .ret, st, n => Gh st n (RetW P rs v objs')
  | .normal, st, n => Gh st n (RetW P rs v objs')
  | _, _, _ => False

section
variable {P : Program} {Γ : Ctx} {Z B : Zone} {ρ : Names} {F : Ix → List Nat} {N : Nat → Prop} {st st' : St} {ps : List V} {vals : List Value} {X : List Nat} {tm : Array Value} {w : World}

theorem lk_entryO : ∀ (objs : List C) (i : Nat) (x : Res), lk (entryO objs i) x = match x with | .s _ => none | .r j => if i ≤ j then objs[j - i]? else none
  | [], i, x => by cases x <;> simp [entryO, lk]
  | o :: os, i, x => by
    simp only [entryO, lk]
    rw [lk_entryO os (i + 1) x]
    cases x with
    | s n => simp
    | r j =>
      simp only [Res.r.injEq]
      split
      · rename_i e; subst e; simp
      · rename_i e
        by_cases h : i ≤ j
        · have : i + 1 ≤ j := by omega
          have e2 : j - i = (j - (i + 1)) + 1 := by omega
          simp only [h, this, if_true]
          rw [e2, List.getElem?_cons_succ]
        · have : ¬ i + 1 ≤ j := by omega
          simp [h, this]

theorem lk_entryO' (objs : List C) : lk (entryO objs 0) = stO objs := by
  funext x
  rw [lk_entryO]
  cases x <;> simp [stO]

theorem SatF.tms {tm' : Array Value} (h : SatF Γ Z B ρ F N st ps vals X tm w) (hs : ∀ s, st (.s s) = none) : SatF Γ Z B ρ F N st ps vals X tm' w :=
  ⟨fun s c hc => absurd ((hs s).symm.trans hc) (by simp), h.obj, h.pend, h.dead, h.nodup, h.disj, h.own, h.zB, h.zone, h.zoneOld, h.zOld, h.zZ, h.zBB, h.frame, h.grow, h.rho, h.kN⟩

theorem entry_sound : ∀ (args : List V) (vals : List Value) (i : Nat) (st : SL) (F : Ix → List Nat), SatF Γ Z B ρ F N (lk st) args vals X tm w → (∀ j v, vals[j]? = some v → tm[i + j]? = some v) →
    ∃ F', SatF Γ Z B ρ F' N (lk (entryS args i st)) [] [] X tm w
  | [], vals, i, st, F, h, hv => by
    have := h.lenPend
    have e : vals = [] := List.length_eq_zero_iff.1 (by simpa using this.symm)
    subst e
    exact ⟨F, h⟩
  | v :: vs, vals, i, st, F, h, hv => by
    cases vals with
    | nil => have := h.lenPend; simp at this
    | cons val vals =>
      have h0 := hv 0 val rfl
      have hlt : i < tm.size := by
        have := (Array.getElem?_eq_some_iff.1 h0).1
        simpa using this
      obtain ⟨F1, h1⟩ := h.put hlt
      have e : tm.setIfInBounds i val = tm := by
        have : tm.getD i undef = val := by
          rw [Array.getD_eq_getD_getElem?]
          simp only [Nat.add_zero] at h0
          rw [h0]; rfl
        rw [← this, setget]
      rw [e, ← lk_cons] at h1
      exact entry_sound vs vals (i + 1) _ F1 h1 (fun j u hj => by
        have := hv (j + 1) u (by simpa using hj)
        rwa [show i + 1 + j = i + (j + 1) by omega])

def resF (tm : Array Value) : ResultVar → Sem Value
  | .tmp t => pure (tm.getD t undef)
  | .cell a t => do loadVar t (← asAddr (tm.getD a undef))

theorem resTo_sound {x v : V} {u : Unit} {val : Value} {R W : List Res} (r2 : Run (resTo v x) st u st' R W) (h1 : SatF Γ Z B ρ F N st (x :: ps) (val :: vals) X tm w) :
    ∃ F', SatF Γ Z B ρ F' N st' (v :: ps) (val :: vals) X tm w := by
  unfold resTo at r2
  split at r2
  · rename_i d
    obtain ⟨d', st2, R3, W3, R4, W4, r3, r4, -, -⟩ := r2.bind_inv
    cases r4 with
    | req g r4 =>
      cases r4
      subst g
      exact (res_sound 7).1 _ _ _ _ _ _ [] ps _ X F r3 h1
  · rename_i ts
    split at r2
    · rename_i xs
      obtain ⟨ds, st2, R3, W3, R4, W4, r3, r4, -, -⟩ := r2.bind_inv
      cases r4 with
      | req g r4 =>
        cases r4
        subst g
        exact resAny_sound (x := .agg xs) (v := .agg (ds.map V.d)) (Run.bind r3 .ret) h1
    · cases r2
  · cases r2 with
    | req g r2 =>
      cases r2
      subst g
      exact ⟨F, h1⟩

theorem retOne_sound {r : ResultVar} {v : V} {u : Unit} {n : Nat} {R W : List Res} (hr : Run (retOne P n r v) st u st' R W) (h : SatF Γ Z B ρ F (· < n) st ps vals X tm w) :
    ∃ val ρ' F', (resF tm r).run P w = .ok val w ∧ SatF Γ Z B ρ' F' (· < n + 64) st' (v :: ps) (val :: vals) X tm w := by
  unfold retOne at hr
  split at hr
  · rename_i t
    obtain ⟨x, st1, R1, W1, R2, W2, r1, r2, -, -⟩ := hr.bind_inv
    obtain ⟨F1, h1⟩ := fetch_sound (a := { tmps := tm, defers := [] }) r1 rfl h
    have e : ({ tmps := tm, defers := [] } : Act).eval (.tmp t) = tm.getD t undef := rfl
    rw [e] at h1
    obtain ⟨F2, h2⟩ := resTo_sound r2 h1
    exact ⟨tm.getD t undef, ρ, F2, rfl, h2.weakN (fun r hr => by omega)⟩
  · rename_i a t
    obtain ⟨x, st1, R1, W1, R2, W2, r1, r2, -, -⟩ := hr.bind_inv
    obtain ⟨y, st2, R3, W3, R4, W4, r3, r4, -, -⟩ := r2.bind_inv
    obtain ⟨F1, h1⟩ := fetch_sound (a := { tmps := tm, defers := [] }) r1 rfl h
    have e : ({ tmps := tm, defers := [] } : Act).eval (.tmp a) = tm.getD a undef := rfl
    rw [e] at h1
    obtain ⟨val', ρ', F', ⟨ad, e2⟩, e1, h2⟩ := load_sound (P := P) r3 (fun r h1 h2 => by omega) h1
    obtain ⟨F2, h3⟩ := resTo_sound r4 h2
    refine ⟨val', ρ', F2, ?_, h3.weakN (fun r hr => by rcases hr with hr | hr <;> omega)⟩
    rw [e2] at e1
    simp only [resF, e2]
    simpa [Instr.loadAt, Instr.sureAddr, asAddr] using e1

theorem retAll_sound : ∀ {rs : List ResultVar} {vs : List V} {u : Unit} {n : Nat} {st st' : St} {R W : List Res} {ps : List V} {vals : List Value} {ρ : Names} {F : Ix → List Nat}, Run (retAll P n rs vs) st u st' R W → SatF Γ Z B ρ F (· < n) st ps vals X tm w →
    ∃ us n' ρ' F', (rs.mapM (resF tm)).run P w = .ok us w ∧ us.length = vs.length ∧ SatF Γ Z B ρ' F' (· < n') st' (vs ++ ps) (us ++ vals) X tm w
  | [], vs, u, n, st, st', R, W, ps, vals, ρ, F, hr, h => by
    cases vs <;> simp only [retAll] at hr <;> cases hr
    exact ⟨[], n, ρ, F, rfl, rfl, h⟩
  | r :: rs, vs, u, n, st, st', R, W, ps, vals, ρ, F, hr, h => by
    cases vs with
    | nil => simp only [retAll] at hr; cases hr
    | cons v vs =>
      simp only [retAll] at hr
      obtain ⟨x, st1, R1, W1, R2, W2, r1, r2, -, -⟩ := hr.bind_inv
      obtain ⟨val, ρ1, F1, h1, h2⟩ := retOne_sound r1 h
      obtain ⟨us, n', ρ2, F2, h3, h4, h5⟩ := retAll_sound r2 h2
      obtain ⟨F3, h6⟩ := SatF.front (pre := vs) (mid := [v]) (va := us) (vm := [val]) (by simpa using h5) h4 rfl
      refine ⟨val :: us, n', ρ2, F3, ?_, by simp [h4], by simpa using h6⟩
      rw [List.mapM_cons]
      simp only [Sem.run_bind, h1, Result.andThen, h3, Sem.run_pure]

theorem objsAre_spec : ∀ {objs : List C} {st : SL} {i : Nat}, objsAre st i objs → ∀ j c, objs[j]? = some c → lk st (.r (i + j)) = some c
  | [], st, i, h, j, c, hj => by simp at hj
  | o :: os, st, i, h, j, c, hj => by
    cases j with
    | zero => simp at hj; subst hj; exact h.1
    | succ j =>
      have := objsAre_spec h.2 j c (by simpa using hj)
      rwa [show i + (j + 1) = i + 1 + j by omega]

theorem results_of {fn : Func} {us : List Value} {w : World} (h : (fn.results.toList.mapM (resF tm)).run P w = .ok us w) :
    (results fn tm).run P w = .ok (if hh : us.length = 1 then us[0] else .tuple us.toArray) w := by
  have e : results fn tm = (do let vs ← fn.results.mapM (resF tm); pure (if h : vs.size = 1 then vs[0] else .tuple vs)) := by
    unfold results
    congr 1
  rw [e, Array.mapM_eq_mapM_toList]
  simp only [Sem.run_bind, map_eq_pure_bind, h, Result.andThen, Sem.run_pure]
  by_cases hh : us.length = 1
  · simp [hh]
  · simp [hh]

theorem retAll_length : ∀ {rs : List ResultVar} {vs : List V} {u : Unit} {n : Nat} {st st' : St} {R W : List Res}, Run (retAll P n rs vs) st u st' R W → rs.length = vs.length
  | [], vs, u, n, st, st', R, W, h => by cases vs <;> simp only [retAll] at h <;> cases h; rfl
  | r :: rs, vs, u, n, st, st', R, W, h => by
    cases vs with
    | nil => simp only [retAll] at h; cases h
    | cons v vs =>
      simp only [retAll] at h
      obtain ⟨x, st1, R1, W1, R2, W2, r1, r2, -, -⟩ := h.bind_inv
      simp [retAll_length r2]

theorem ret_sound {fn : Func} {v : V} {objs' : List C} {st : SL} {n : Nat} (hw : RetW P fn.results.toList v objs' st n) (h : Sat Γ (· < n) (lk st) tm w) :
    ∃ val n', (results fn tm).run P w = .ok val w ∧ SatP Γ (· < n') (stO objs') [v] [val] tm w := by
  obtain ⟨u, st', R', W', R2, W2, h1, h2, -, -⟩ := Prog.wp_run hw
  obtain ⟨Z, B, ρ, F, h⟩ := h
  have fin : ∀ {val : Value} {ρ' : Names} {F' : Ix → List Nat} {n' : Nat}, SatF Γ Z B ρ' F' (· < n') (lk st') [v] [val] [] tm w → SatP Γ (· < n') (stO objs') [v] [val] tm w := by
    intro val ρ' F' n' hh
    refine sat_sub ⟨Z, B, ρ', F', hh⟩ ?_
    intro r c hc
    cases r with
    | s t => cases hc
    | r i =>
      have := objsAre_spec h2 i c hc
      simpa using this
  unfold retP at h1
  split at h1
  · rename_i r e
    obtain ⟨val, ρ', F', k1, k2⟩ := retOne_sound (P := P) h1 h
    have := results_of (P := P) (fn := fn) (tm := tm) (us := [val]) (w := w) (by
      rw [e, List.mapM_cons]
      simp only [Sem.run_bind, k1, Result.andThen, List.mapM_nil, Sem.run_pure])
    exact ⟨val, _, by simpa using this, fin k2⟩
  · rename_i vs hne
    obtain ⟨us, n', ρ', F', k1, k2, k3⟩ := retAll_sound (P := P) h1 h
    have hr := results_of (P := P) (fn := fn) (tm := tm) (us := us) (w := w) k1
    have hl : us.length ≠ 1 := by
      intro hl
      have h5 := retAll_length h1
      rw [k2] at hl
      rw [hl] at h5
      obtain ⟨r, e⟩ := List.length_eq_one_iff.1 h5
      exact hne r e
    rw [dif_neg hl] at hr
    refine ⟨_, n', hr, ?_⟩
    obtain ⟨Fa, Fm, Fc, e0, q1, q2, q3, m1, m2, m3⟩ := SatF.partsAt (pre := []) (mid := vs) (ps := []) (va := []) (vm := us) (vc := []) k3 rfl k2
    cases q1
    obtain ⟨F3, _, h3⟩ := k3.rehand (ps' := [.tup vs]) (vals' := [.tuple us.toArray]) (X' := []) (Fp' := Fm ++ Fc) (RelVs.tup q2 q3) ⟨m2, trivial⟩ (by rw [e0]; simp) (by rw [e0]; simp)
    exact fin h3
  · cases h1

/-- A FUNCTION'S CONTRACT, OUT OF ITS WALK. -/
theorem con_of_aw {f : FuncId} {fn : Func} {c : Code} {args : List V} {objs objs' : List C} {v : V} (hf : P.funcs[f]? = some fn) (hb : fn.body = some c)
    (henter : ∀ (a : Array Value) (w : World), (callFunc f a).run P w = .ok (.enter f a) w) (hT : args.length ≤ fn.ntmps)
    (inA : V.inNs (· < objs.length) args) (inO : ∀ c ∈ objs, c.inN (· < objs.length)) (inV : v.inN (· < objs.length)) (inO' : ∀ c ∈ objs', c.inN (· < objs.length)) (len : objs'.length = objs.length)
    (h : aw P fn.ntmps c (entryS args 0 (entryO objs 0)) objs.length (retQ P fn.results.toList v objs')) : Con P f args objs v objs' := by
  refine ⟨henter, inA, inO, inV, inO', len, ?_⟩
  rintro Γ vals w hk ⟨Z, B, ρ, F, hs⟩
  refine calls_of_wp hf hb ?_
  have hlen : vals.length = args.length := hs.lenPend.symm
  have hs1 : SatF Γ Z B ρ F (· < objs.length) (lk (entryO objs 0)) args vals [] (vals.toArray ++ Array.replicate (fn.ntmps - vals.toArray.size) undef) w := by
    rw [lk_entryO']
    exact hs.tms (fun _ => rfl)
  obtain ⟨F2, hs2⟩ := entry_sound args vals 0 (entryO objs 0) F hs1 (by
    intro j u hj
    have hlt : j < vals.length := (List.getElem?_eq_some_iff.1 hj).1
    rw [Nat.zero_add, Array.getElem?_append_left (by simpa using hlt)]
    simpa using hj)
  have := aw_sound c _ _ _ h Γ { tmps := vals.toArray ++ Array.replicate (fn.ntmps - vals.toArray.size) undef, defers := [] } w (by simp; omega) rfl ⟨Z, B, ρ, F2, hs2⟩
  refine wp_mono this ?_
  rintro e a' w' ⟨h1, h2, st', n', h3, h4, h5⟩
  have fin : Gh st' n' (RetW P fn.results.toList v objs') → a'.defers = [] ∧ ∃ val, (results fn a'.tmps).run P w' = .ok val w' ∧ ∃ val' N, Ending.returned val = .returned val' ∧ SatP Γ N (stO objs') [v] [val'] #[] w' := by
    intro hg
    obtain ⟨st2, n2, k1, k2, k3⟩ := hg Γ a'.tmps w' h5
    obtain ⟨val, n3, k4, k5⟩ := ret_sound (P := P) k2 k3
    obtain ⟨Z, B, ρ, F, k5⟩ := k5
    exact ⟨h2, val, k4, val, (· < n3), rfl, Z, B, ρ, F, k5.tms (fun _ => rfl)⟩
  cases e with
  | normal => exact fin h4
  | ret => exact fin h4
  | exit id => exact h4.elim
  | goto l => exact h4.elim
  | panic ch => exact h4.elim
  | outgrown => exact h4.elim

end
end Go.Proofs.Ytdoboiiilcgbnaa.L
