/- WHAT IS PROVED: an order-free region, walked in one order, does the same in each. Conditions: none. -/
import Derived.Test.YtdoboiiilcgbnaaL26
import Derived.Orders
namespace Go.Proofs.Ytdoboiiilcgbnaa.L
set_option linter.unusedVariables false
set_option linter.unusedSimpArgs false

/-- One operation of a region, its guard and its slot taken in. -/
def putP (dst : Option Tmp) (v : V) : Prog Unit := match dst with
  | some d => .set (.s d) (some (.v v)) (.ret ())
  | none => .ret ()

def stepP (P : Program) (nm : Nat) (ops : Array Oper) (o : Oper) : Prog Unit := match o.guard with
  | none => (opC P nm o.op).bind (putP o.dst)
  | some (j, want) => match (ops[j]?).bind (·.dst) with
    | none => .fail
    | some d => .get (.s d) fun c => match c with
      | .v (.d (.p (.bool b))) => if b = want then (opC P nm o.op).bind (putP o.dst) else putP o.dst (.tup [])
      | .v (.tup []) => putP o.dst (.tup [])
      | _ => .fail

section
variable {P : Program} {Γ : Ctx} {N : Nat → Prop} {st st' : St} {w : World}

theorem sat_putR {a : Act} {dst : Option Tmp} {v : V} {val : Value} {u : Unit} {R W : List Res} (hr : Run (putP dst v) st u st' R W) (h : SatP Γ N st [v] [val] a.tmps w) (hd : dstOk a.tmps.size dst) :
    Sat Γ N st' (a.put dst val).tmps w := by
  obtain ⟨Z, B, ρ, F, h⟩ := h
  cases dst with
  | none =>
    simp only [putP] at hr
    cases hr
    obtain ⟨F', h'⟩ := h.drop
    exact ⟨Z, B, ρ, F', h'⟩
  | some d =>
    simp only [putP] at hr
    cases hr with
    | set hr =>
      cases hr
      obtain ⟨F', h'⟩ := h.put hd
      exact ⟨Z, B, ρ, F', h'⟩

theorem step_sound {ops : Array Oper} {o : Oper} {i nm : Nat} {u : Unit} {R W : List Res} (hi : ops[i]? = some o) (hr : Run (stepP P nm ops o) st u st' R W) {a : Act} (hd : dstOk a.tmps.size o.dst)
    (hsat : Sat Γ N st a.tmps w) (hf : ∀ r, nm ≤ r → r < nm + 64 → ¬ N r) {K : Act → World → Prop} {Q : Exit → Act → World → Prop}
    (hk : ∀ a' w', a'.tmps.size = a.tmps.size → a'.defers = a.defers → Sat Γ (Nx nm N) st' a'.tmps w' → K a' w') : wpOp P ops Q i K a w := by
  have run : ∀ {st : St} {R W : List Res}, Sat Γ N st a.tmps w → Run ((opC P nm o.op).bind (putP o.dst)) st u st' R W → o.wp P a w K Q := by
    intro st R W hsat h
    obtain ⟨v, st1, R1, W1, R2, W2, r1, r2, -, -⟩ := h.bind_inv
    exact opC_ok r1 Γ N a w hsat hf K Q (fun val w' hh => hk _ w' (put_size a o.dst val) (put_defers' a o.dst val) (sat_putR r2 hh hd))
  have skip : ∀ {st : St} {R W : List Res}, Sat Γ N st a.tmps w → Run (putP o.dst (.tup [])) st u st' R W → K (a.put o.dst undef) w := by
    intro st R W hsat h
    obtain ⟨Z, B, ρ, F, hs⟩ := hsat
    have h2 := sat_putR (val := undef) h ⟨Z, B, ρ, F, hs.push (v := .tup []) (val := undef) (.tup .nil .nil) trivial⟩ hd
    obtain ⟨Z, B, ρ, F, h2⟩ := h2
    exact hk _ w (put_size a o.dst undef) (put_defers' a o.dst undef) ⟨Z, B, ρ, F, h2.toNx⟩
  unfold wpOp
  simp only [hi]
  unfold stepP at hr
  split at hr
  · rename_i hg
    simp only [Region.wanted, hg, if_true]
    exact .inl (run hsat hr)
  · rename_i j want hg
    split at hr
    · cases hr
    · rename_i d hj
      cases hr with
      | @get _ _ _ _ c _ _ _ c1 c2 =>
        dsimp only at c2
        split at c2
        · rename_i b
          obtain ⟨hlt, hval⟩ := bool_of_slot hsat c1
          have hy : yielded ops a.tmps j = some b := by
            have : a.tmps[d]? = some (.bool b) := by
              rw [Array.getD_eq_getD_getElem?] at hval
              rw [Array.getElem?_eq_getElem hlt] at hval ⊢
              simpa using hval
            simp [yielded, hj, this]
          simp only [Region.wanted, hg, hy]
          split at c2
          · rename_i e
            subst e
            simp only [beq_self_eq_true, if_true]
            exact .inl (run hsat c2)
          · rename_i e
            have : ((some b == some want) : Bool) = false := by simpa using e
            simp only [this, Bool.false_eq_true, if_false]
            exact skip hsat c2
        · obtain ⟨hlt, hval⟩ := tup_of_slot hsat c1
          have hy : yielded ops a.tmps j = none := by
            have : a.tmps[d]? = some undef := by
              rw [Array.getD_eq_getD_getElem?] at hval
              rw [Array.getElem?_eq_getElem hlt] at hval ⊢
              simpa using hval
            simp [yielded, hj, this, undef]
          simp only [Region.wanted, hg, hy]
          simp only [show ((none : Option Bool) == some want) = false from rfl, Bool.false_eq_true, if_false]
          exact skip hsat c2
        · cases c2

end
end Go.Proofs.Ytdoboiiilcgbnaa.L
