/- WHAT IS PROVED: a row of operations, walked over an abstract state. Conditions: none. -/
import Derived.Test.YtdoboiiilcgbnaaL20
namespace Go.Proofs.Ytdoboiiilcgbnaa.L
set_option linter.unusedVariables false
set_option linter.unusedSimpArgs false

def putSt (dst : Option Tmp) (v : V) (st : SL) : SL := match dst with
  | some d => (.s d, some (.v v)) :: st
  | none => st

def dstOk (T : Nat) : Option Tmp → Prop
  | some d => d < T
  | none => True

def regW (P : Program) (T : Nat) (ops : Array Oper) : List Oper → SL → Nat → (SL → Nat → Prop) → Prop
  | [], st, n, K => K st n
  | o :: os, st, n, K => dstOk T o.dst ∧ match o.guard with
    | none => (opC P n o.op).wp st [] [] fun v st' _ _ => regW P T ops os (putSt o.dst v st') (n + 64) K
    | some (j, want) => match (ops[j]?).bind (·.dst) with
      | none => False
      | some d => match lk st (.s d) with
        | some (.v (.d (.p (.bool b)))) => (b = want → (opC P n o.op).wp ((.s d, some (.v (.d (.p (.bool want))))) :: st) [] [] fun v st' _ _ => regW P T ops os (putSt o.dst v st') (n + 64) K) ∧
            (b = !want → regW P T ops os (putSt o.dst (.tup []) ((.s d, some (.v (.d (.p (.bool (!want)))))) :: st)) n K)
        | some (.v (.tup [])) => regW P T ops os (putSt o.dst (.tup []) st) n K
        | _ => False

section
variable {P : Program} {Γ : Ctx} {Z B : Zone} {ρ : Names} {F : Ix → List Nat} {N : Nat → Prop} {st : St} {ps : List V} {vals : List Value} {X : List Nat} {tm : Array Value} {w : World}

theorem SatF.put {d : Nat} {v : V} {val : Value} (h : SatF Γ Z B ρ F N st (v :: ps) (val :: vals) X tm w) (hd : d < tm.size) :
    ∃ F', SatF Γ Z B ρ F' N (upd st (.s d) (some (.v v))) ps vals X (tm.setIfInBounds d val) w := by
  obtain ⟨G, H, e, g1, g2, n1, n2⟩ := h.headF
  have hnd := h.nodup none
  rw [e] at hnd
  refine ⟨fun x => if x = none then H ++ X else if x = some (.s d) then G else F x, ?_⟩
  refine h.step [none, some (.s d)] (by simp) (Grow.refl w) (fun _ _ _ => rfl) ?_ ?_ ?_ (by simp) (fun _ x => x) (fun _ _ => rfl) (fun _ x => x) (fun _ x => x) h.zB (fun _ x => .inl x) (fun _ x => .inl x) ?_ ?_ ?_ ?_ ?_ ?_
  · intro x hx
    simp only [List.mem_cons, reduceCtorEq, Option.some.injEq, List.not_mem_nil, or_false, false_or] at hx
    simp [upd, hx]
  · intro x hx
    simp only [List.mem_cons, List.not_mem_nil, or_false, not_or] at hx
    simp [hx.1, hx.2]
  · intro s hs hlt
    simp only [List.mem_cons, reduceCtorEq, Option.some.injEq, Res.s.injEq, List.not_mem_nil, or_false, false_or] at hs
    have hne : ¬ d = s := fun e => hs e.symm
    simp [hlt, Array.getD_eq_getD_getElem?, Array.getElem?_setIfInBounds, hne]
  · intro s c hs hc
    simp only [List.mem_cons, reduceCtorEq, Option.some.injEq, Res.s.injEq, List.not_mem_nil, or_false, false_or] at hs
    subst hs
    simp [upd] at hc
    subst hc
    refine ⟨by simpa using hd, v, rfl, ?_, n1⟩
    simpa [Array.getD_eq_getD_getElem?, Array.getElem?_setIfInBounds, hd] using g1
  · intro r c hs; simp at hs
  · intro _
    exact ⟨⟨H, by simp, g2⟩, n2⟩
  · intro x hx hn
    simp only [List.mem_cons, reduceCtorEq, Option.some.injEq, List.not_mem_nil, or_false, false_or] at hx
    subst hx
    simp [upd] at hn
  · simp only [List.flatMap_cons, List.flatMap_nil, List.append_nil, if_true, reduceCtorEq, if_false]
    rw [List.nodup_iff_count] at hnd ⊢; intro t; have hnd := hnd t; simp only [List.count_append, List.count_cons, List.count_nil] at hnd ⊢; omega
  · intro b hb
    simp only [List.flatMap_cons, List.flatMap_nil, List.append_nil, if_true, reduceCtorEq, if_false, List.mem_append] at hb
    have hm : b ∈ F none := by rw [e]; simp only [List.mem_append]; grind
    refine ⟨.inl ?_, (h.own none b hm).2.1, (h.own none b hm).1⟩
    simp only [List.flatMap_cons, List.flatMap_nil, List.append_nil, List.mem_append]
    exact .inl hm

theorem sat_put {a : Act} {dst : Option Tmp} {v : V} {val : Value} {st : SL} (h : SatP Γ N (lk st) [v] [val] a.tmps w) (hd : dstOk a.tmps.size dst) : Sat Γ N (lk (putSt dst v st)) (a.put dst val).tmps w := by
  obtain ⟨Z, B, ρ, F, h⟩ := h
  cases dst with
  | none =>
    obtain ⟨F', h'⟩ := h.drop
    exact ⟨Z, B, ρ, F', h'⟩
  | some d =>
    obtain ⟨F', h'⟩ := h.put hd
    refine ⟨Z, B, ρ, F', ?_⟩
    simp only [putSt, lk_cons, Act.put]
    exact h'

theorem sat_skip {a : Act} {dst : Option Tmp} {st : SL} (h : Sat Γ N (lk st) a.tmps w) (hd : dstOk a.tmps.size dst) : Sat Γ N (lk (putSt dst (.tup []) st)) (a.put dst undef).tmps w := by
  obtain ⟨Z, B, ρ, F, h⟩ := h
  exact sat_put ⟨Z, B, ρ, F, h.push (v := .tup []) (val := undef) (.tup .nil .nil) trivial⟩ hd

theorem put_size (a : Act) (dst : Option Tmp) (v : Value) : (a.put dst v).tmps.size = a.tmps.size := by
  cases dst <;> simp [Act.put]

theorem put_defers' (a : Act) (dst : Option Tmp) (v : Value) : (a.put dst v).defers = a.defers := by
  cases dst <;> rfl

theorem lk_same {st : SL} {x : Res} {c : Option C} (h : lk st x = c) : lk ((x, c) :: st) = lk st := by
  rw [lk_cons]
  funext y
  simp only [upd]
  split
  · rename_i e; rw [e, h]
  · rfl

/-- One operation. -/
theorem opW_sound {o : Oper} {T n : Nat} {st : SL} {K : SL → Prop} (h : (opC P n o.op).wp st [] [] fun v st' _ _ => K (putSt o.dst v st')) (hd : dstOk T o.dst)
    {a : Act} (hs : a.tmps.size = T) (hsat : Sat Γ (· < n) (lk st) a.tmps w) {K' : Act → World → Prop} {Q : Exit → Act → World → Prop}
    (hk : ∀ a' w' st', a'.tmps.size = T → a'.defers = a.defers → K st' → Sat Γ (· < n + 64) (lk st') a'.tmps w' → K' a' w') : o.wp P a w K' Q := by
  obtain ⟨v, st', R', W', R2, W2, h1, h2, -, -⟩ := Prog.wp_run h
  refine opC_ok h1 Γ (· < n) a w hsat (fun r h1 h2 => by omega) K' Q (fun val w' hh => ?_)
  subst hs
  refine hk _ w' _ (put_size a o.dst val) (put_defers' a o.dst val) h2 ?_
  obtain ⟨Z, B, ρ, F, hh⟩ := sat_put hh hd
  exact ⟨Z, B, ρ, F, hh.weakN (fun r hr => by rcases hr with hr | hr <;> omega)⟩

theorem bool_of_slot {t : Nat} {b : Bool} {st : St} (h : Sat Γ N st tm w) (hs : st (.s t) = some (.v (.d (.p (.bool b))))) : t < tm.size ∧ tm.getD t undef = .bool b := by
  obtain ⟨Z, B, ρ, F, h⟩ := h
  obtain ⟨h1, v, e, h2, _⟩ := h.slot t _ hs
  cases e
  exact ⟨h1, rel_p h2⟩

theorem tup_of_slot {t : Nat} {st : St} (h : Sat Γ N st tm w) (hs : st (.s t) = some (.v (.tup []))) : t < tm.size ∧ tm.getD t undef = undef := by
  obtain ⟨Z, B, ρ, F, h⟩ := h
  obtain ⟨h1, v, e, h2, _⟩ := h.slot t _ hs
  cases e
  refine ⟨h1, ?_⟩
  generalize tm.getD t undef = val at h2 ⊢
  generalize F (some (.s t)) = Fs at h2
  cases h2 with
  | tup t1 t2 => cases t1; rfl

theorem reg_sound {T : Nat} {ops : Array Oper} {Q : Exit → Act → World → Prop} : ∀ (os : List Oper) (i : Nat) (st : SL) (n : Nat) (K : SL → Nat → Prop), ops.toList.drop i = os → regW P T ops os st n K →
    ∀ (a : Act) (w : World), a.tmps.size = T → a.defers = [] → Sat Γ (· < n) (lk st) a.tmps w →
    (∀ st' n' a' w', n ≤ n' → K st' n' → a'.tmps.size = T → a'.defers = [] → Sat Γ (· < n') (lk st') a'.tmps w' → Q .normal a' w') → wpOps P ops Q (List.range' i os.length) a w
  | [], i, st, n, K, hos, h, a, w, hs, hd, hsat, hk => by
    simp only [List.length_nil, List.range'_zero, wpOps]
    exact hk st n a w (Nat.le_refl _) h hs hd hsat
  | o :: os, i, st, n, K, hos, h, a, w, hs, hd, hsat, hk => by
    have hi : ops[i]? = some o := by
      have := congrArg (·[0]?) hos
      simpa using this
    have hos' : ops.toList.drop (i + 1) = os := by
      have := congrArg (List.drop 1) hos
      simpa [List.drop_drop, Nat.add_comm] using this
    rw [List.length_cons, List.range'_succ, wpOps_cons]
    unfold wpOp
    simp only [hi]
    simp only [regW] at h
    obtain ⟨hdst, h⟩ := h
    have hdst' : dstOk a.tmps.size o.dst := by rw [hs]; exact hdst
    have run : ∀ (st : SL), Sat Γ (· < n) (lk st) a.tmps w → ((opC P n o.op).wp st [] [] fun v st' _ _ => regW P T ops os (putSt o.dst v st') (n + 64) K) → o.wp P a w (wpOps P ops Q (List.range' (i + 1) os.length)) Q := by
      intro st hsat h
      refine opW_sound (K := fun st' => regW P T ops os st' (n + 64) K) h hdst hs hsat ?_
      intro a' w' st' h1 h2 h3 h4
      exact reg_sound os (i + 1) st' (n + 64) K hos' h3 a' w' h1 (by rw [h2, hd]) h4 (fun st2 n2 a2 w2 h5 => hk st2 n2 a2 w2 (by omega))
    have skip : ∀ (st : SL), Sat Γ (· < n) (lk st) a.tmps w → regW P T ops os (putSt o.dst (.tup []) st) n K → wpOps P ops Q (List.range' (i + 1) os.length) (a.put o.dst undef) w := by
      intro st hsat h
      exact reg_sound os (i + 1) _ n K hos' h _ w (by rw [put_size, hs]) (by rw [put_defers', hd]) (sat_skip hsat hdst') hk
    split at h
    · rename_i hg
      simp only [Region.wanted, hg, if_true]
      exact .inl (run st hsat h)
    · rename_i j want hg
      split at h
      · exact h.elim
      · rename_i d hj
        split at h
        · rename_i b hslot
          obtain ⟨hlt, hval⟩ := bool_of_slot hsat hslot
          have hy : yielded ops a.tmps j = some b := by
            have : a.tmps[d]? = some (.bool b) := by
              rw [Array.getD_eq_getD_getElem?] at hval
              rw [Array.getElem?_eq_getElem hlt] at hval ⊢
              simpa using hval
            simp [yielded, hj, this]
          simp only [Region.wanted, hg, hy]
          by_cases hb : b = want
          · subst hb
            simp only [beq_self_eq_true, if_true]
            exact .inl (run _ (by rw [lk_same hslot]; exact hsat) (h.1 rfl))
          · have hb' : b = !want := by cases b <;> cases want <;> simp_all
            have : ((some b == some want) : Bool) = false := by simpa using hb
            simp only [this, Bool.false_eq_true, if_false]
            subst hb'
            exact skip _ (by rw [lk_same hslot]; exact hsat) (h.2 rfl)
        · rename_i hslot
          obtain ⟨hlt, hval⟩ := tup_of_slot hsat hslot
          have hy : yielded ops a.tmps j = none := by
            have : a.tmps[d]? = some undef := by
              rw [Array.getD_eq_getD_getElem?] at hval
              rw [Array.getElem?_eq_getElem hlt] at hval ⊢
              simpa using hval
            simp [yielded, hj, this, undef]
          simp only [Region.wanted, hg, hy]
          simp only [show ((none : Option Bool) == some want) = false from rfl, Bool.false_eq_true, if_false]
          exact skip _ hsat h
        · exact h.elim

end
end Go.Proofs.Ytdoboiiilcgbnaa.L
