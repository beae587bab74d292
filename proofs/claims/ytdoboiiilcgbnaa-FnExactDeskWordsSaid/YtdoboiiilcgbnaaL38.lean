/- WHAT IS PROVED: a choice inside a walk. Conditions: none. -/
import Derived.Test.YtdoboiiilcgbnaaL37
namespace Go.Proofs.Ytdoboiiilcgbnaa.L
set_option linter.unusedVariables false
set_option linter.unusedSimpArgs false

theorem wp_ite {α : Type} {c : Prop} [Decidable c] {A B : Prog α} {st : SL} {R W : List Res} {k : α → SL → List Res → List Res → Prop} (h1 : c → A.wp st R W k) (h2 : ¬ c → B.wp st R W k) : (if c then A else B).wp st R W k := by
  split
  · exact h1 ‹_›
  · exact h2 ‹_›

theorem aw_cond_false {P : Program} {T n : Nat} {st : SL} {x y : Code} {Q : Exit → SL → Nat → Prop} (h : aw P T y st n Q) : aw P T (.cond (.const (.bool false)) x y) st n Q := by
  simp only [aw, condW]
  exact h
theorem aw_cond_true {P : Program} {T n : Nat} {st : SL} {x y : Code} {Q : Exit → SL → Nat → Prop} (h : aw P T x st n Q) : aw P T (.cond (.const (.bool true)) x y) st n Q := by
  simp only [aw, condW]
  exact h

end Go.Proofs.Ytdoboiiilcgbnaa.L
