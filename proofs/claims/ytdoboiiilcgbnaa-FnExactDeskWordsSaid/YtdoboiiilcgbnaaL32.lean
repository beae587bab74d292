/- WHAT IS PROVED: an argument that a row hands in, as a value of the walker. Conditions: none. -/
import Derived.Test.YtdoboiiilcgbnaaL31
namespace Go.Proofs.Ytdoboiiilcgbnaa.L
open Go.ChangeShapes Go.WideShapes Go.RowKit
set_option linter.unusedVariables false
set_option linter.unusedSimpArgs false

section
variable {H : Type} {enc : TypeId × Value → H} {P : Program} {w : World} {base : Nat}

def ShpV (P : Program) (m : Nat) (t : TypeId) (x : V) : Prop := match P.underlying t with
  | some (.struct _) => ∃ ds, x = .agg (ds.map V.d) ∧ Shp P m t ds
  | _ => ∃ d, x = .d d ∧ Shp P m t [d]

theorem arg_shape {m : Nat} {t : TypeId} {v : Value} {d : DataW H} {p : List MemPlace} (hv : Value.okWide P w .any base t v) (h : DataW.Trod enc P w 0 (fun _ => true) true t v d p) (hp : plainT P m t = true) :
    ∃ x : V, RelVs (fun _ => False) (fun k => k < w.heap.size) w (fun _ => none) [x] [v] [] ∧ ShpV P m t x := by
  obtain ⟨fuel, hf⟩ := h
  obtain ⟨ds, h1, h2⟩ := trod_shape m fuel t _ _ hp hf
  unfold ShpV
  cases hu : P.underlying t with
  | none =>
    cases m with
    | zero => cases hp
    | succ m => simp [plainT, hu] at hp
  | some u =>
    by_cases hs : ∃ fs, u = .struct fs
    · obtain ⟨fs, rfl⟩ := hs
      simp only [Value.okWide, hu] at hv
      obtain ⟨cs, rfl, -, -⟩ := hv
      refine ⟨.agg (ds.map V.d), ?_, ds, rfl, h2⟩
      have := RelVs.agg (RelVs.ofD (ρ := fun _ => none) h1) h1.one .nil
      simpa [Value.cells] using this
    · have single : v.cells = #[v] := by
        simp only [Value.okWide, hu] at hv
        cases v with
        | agg cs =>
          exfalso
          cases u <;> simp_all [Cell.okWide, Cell.ok, plainT]
          all_goals (cases m <;> simp_all [plainT])
        | _ => rfl
      rw [single] at h1
      have hl := h1.length
      match ds, hl with
      | [d0], _ =>
        refine ⟨.d d0, RelVs.ofD (ds := [d0]) h1, ?_⟩
        cases u <;> first | exact ⟨d0, rfl, h2⟩ | exact absurd ⟨_, rfl⟩ hs

theorem args_shape {m : Nat} : ∀ {ts : List TypeId} {vs : List Value} {ds : List (DataW H)} {ps : List MemPlace}, DataW.TrodAll enc P w 0 (fun _ => true) true ts vs ds ps →
    (∀ (j : Nat) (t : TypeId) (v : Value), ts[j]? = some t → vs[j]? = some v → Value.okWide P w .any base t v) → (∀ t ∈ ts, plainT P m t = true) →
    ∃ xs : List V, RelVs (fun _ => False) (fun k => k < w.heap.size) w (fun _ => none) xs vs [] ∧ All2 (ShpV P m) ts xs
  | [], vs, ds, ps, h, _, _ => by
    obtain ⟨rfl, rfl, rfl⟩ := trodAll_nil h
    exact ⟨[], .nil, .nil⟩
  | t :: ts, vs, ds, ps, h, hv, hp => by
    obtain ⟨v, vs1, d, ds1, a, b, rfl, rfl, rfl, h1, h2⟩ := trodAll_cons h
    obtain ⟨x, k1, k2⟩ := arg_shape (hv 0 t v rfl rfl) h1 (hp t (by simp))
    obtain ⟨xs, k3, k4⟩ := args_shape h2 (fun j t v e1 e2 => hv (j + 1) t v (by simpa using e1) (by simpa using e2)) (fun t ht => hp t (by simp [ht]))
    exact ⟨x :: xs, by simpa using RelVs.append k1 k3, .cons k2 k4⟩

/-- A ROW's CONTRACT, out of a contract at each shape of the arguments. -/
theorem row_contract {f : FuncId} {fn : Func} {s : ChangeSpec} {tb : TypeId} {m : Nat} {apart fresh handsOn again b : Bool} (hl : laidOutB P = true)
    (hc : ∀ xs : List V, All2 (ShpV P m) fn.params.toList xs → Con P f xs [] (.d (.p (.bool b))) [])
    (hp : ∀ t ∈ fn.params.toList, plainT P m t = true) (hr : ∀ t ∈ fn.params.toList, P.readableRec t = true ∧ t < P.types.size)
    (hvars : s.vars = []) (hrt : fn.resultTypes = #[tb]) (hub : P.underlying tb = some .bool)
    {W : World} {args : Array Value} {ds gs : List (DataW H)} {before : List MemPlace} (hfn : s.fn H ds = { results := [.lit (.bool b)], args := ds })
    (hval : ∀ (j : Nat) t v, fn.params[j]? = some t → args[j]? = some v → Value.okWide P W .any base t v) (hW : DataW.Whole enc P fn.params.toList s.vars apart W args.toList ds gs before) :
    Calls P f args W fun e W' => ∃ v, e = .returned v ∧ s.post enc P fn apart fresh handsOn again W args v W' := by
  obtain ⟨p, q, hA, -⟩ := id hW
  obtain ⟨xs, k1, k2⟩ := args_shape (base := base) hA (fun j t v e1 e2 => hval j t v (by simpa using e1) (by simpa using e2)) hp
  exact (row_calls (hc xs k2) k1).mono fun e W' he => ⟨_, he.1, post_true hl hvars hrt hub hfn hr hW he.2⟩

end
end Go.Proofs.Ytdoboiiilcgbnaa.L
