/- WHAT IS PROVED: calls of methods by pointer. Conditions: none. -/
import Derived.Test.YtdoboiiilcgbnaaLM3
namespace Go.Proofs.Ytdoboiiilcgbnaa.L
set_option linter.unusedVariables false
set_option linter.unusedSimpArgs false

/-- A call that hands in one object by a pointer to its first row. -/
theorem call_ownp {P : Program} {f : FuncId} {r s : Nat} {rest : List V} {o o' : C} {v : V} {nm : Nat} {st : SL} {R W : List Res} {k : V → SL → List Res → List Res → Prop} (ho : lk st (.r r) = some o) (hc : Con P f (.mp 0 s 0 0 :: rest) [o] v [o'])
    (hd : V.isDataL rest = true) (h1 : o.ren (fun i => [r].getD i 0) = o) (h2 : o'.ren (fun i => [r].getD i 0) = o')
    (h : (nameAll nm (v.ren fun i => [r].getD i 0)).wp ((.r r, some o') :: st) (.r r :: R) (.r r :: W) k) : (callP P nm f (.mp r s 0 0 :: rest)).wp st R W k := by
  simp only [callP, Prog.wp]
  refine ⟨⟨.mp 0 s 0 0 :: rest, [o], v, [o'], [r], []⟩, ⟨hc, by simp, by simp, .inl rfl⟩, ?_⟩
  simp only [Prog.wp_bind, argsP, argP, CallW.π, V.ren, List.getD_cons_zero, Prog.wp]
  refine ⟨trivial, argsP_self hd ?_⟩
  simp only [objsP, Prog.wp, ho, Prog.bind]
  refine ⟨h1.symm, ?_⟩
  show (nameAll nm (v.ren fun i => [r].getD i 0)).wp ((.r r, some (o'.ren fun i => [r].getD i 0)) :: st) (.r r :: R) (.r r :: W) k
  rw [h2]
  exact h

end Go.Proofs.Ytdoboiiilcgbnaa.L
