/- WHAT IS PROVED: the rules by which a walk goes through an order-free region. Conditions: none. -/
import Derived.Test.YtdoboiiilcgbnaaL29
namespace Go.Proofs.Ytdoboiiilcgbnaa.L
set_option linter.unusedVariables false
set_option linter.unusedSimpArgs false

section
variable {P : Program} {T : Nat} {st : SL} {n : Nat} {Q : Exit → SL → Nat → Prop} {ops : Array Oper} {os : List Oper} {acc : List RW} {K : SL → Nat → List RW → Prop}

theorem aw_draw {i : Nat} {l : List Oper} (hm : P.follows .mixedOrders = true) (h : regD P T l.toArray l st n [] fun st' n' acc => okDraw l.toArray acc = true ∧ Q .normal st' n') : aw P T (.region i l.toArray true) st n Q :=
  draw_of hm h

theorem regD_nil (h : K st n acc) : regD P T ops [] st n acc K := h

theorem regD_op {o : Oper} {n' : Nat} (hd : dstOk T o.dst) (hn : n + 64 = n')
    (h : ∀ k : Unit → SL → List Res → List Res → Prop, (∀ u st' R W, regD P T ops os st' n' (acc ++ [(R, W)]) K → k u st' R W) → (stepP P n ops o).wp st [] [] k) : regD P T ops (o :: os) st n acc K := by
  subst hn
  exact ⟨hd, h _ fun _ _ _ _ x => x⟩

end
end Go.Proofs.Ytdoboiiilcgbnaa.L
