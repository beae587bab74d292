/- WHAT IS PROVED: a row's promise out of a contract: what was there before the call is there as it was. Conditions: none. -/
import Derived.Test.YtdoboiiilcgbnaaL25
import Derived.ProofKit
namespace Go.Proofs.Ytdoboiiilcgbnaa.L
open Go.ChangeShapes Go.WideShapes Go.RowKit
set_option linter.unusedVariables false
set_option linter.unusedSimpArgs false

theorem row_calls {P : Program} {f : FuncId} {xs : List V} {b : Bool} {args : Array Value} {W : World} (hc : Con P f xs [] (.d (.p (.bool b))) [])
    (hrel : RelVs (fun _ => False) (fun k => k < W.heap.size) W (fun _ => none) xs args.toList []) :
    Calls P f args W fun e W' => e = .returned (.bool b) ∧ Below W.heap.size W W' := by
  have hs : SatP { w0 := W, M := fun _ => False, Z := fun _ => False, B := fun k => k < W.heap.size, k := 0, ρ := fun _ => none } (· < 0) (stO []) xs args.toList #[] W := by
    refine ⟨fun _ => False, fun k => k < W.heap.size, fun _ => none, fun _ => [], ?_⟩
    refine ⟨?_, ?_, ⟨⟨[], rfl, hrel⟩, hc.inA⟩, fun _ _ => rfl, fun _ => List.nodup_nil, by simp, by simp, fun b hb => hb.elim, fun b hb => hb, fun b hb => .inl hb, fun b hb => hb.elim, fun b hb => hb, fun b hb => hb, fun _ _ _ => rfl, Grow.refl W, fun i hi => absurd hi (by simp), fun i hi => absurd hi (by simp)⟩
    · intro s c hh; cases hh
    · intro r c hh; simp [stO] at hh
  have := hc.call _ args.toList W rfl hs
  simp only [Array.toArray_toList] at this
  refine this.mono ?_
  rintro e W' ⟨val, N, rfl, Z, B, ρ, F, h⟩
  obtain ⟨G, g⟩ := h.head
  have hv := rel_p g
  subst hv
  exact ⟨rfl, h.grow.os, h.grow.tape, h.grow.output, h.grow.size, fun k hk => h.frame k hk (fun x => x)⟩

theorem trodAll_stays {H : Type} {enc : TypeId × Value → H} {P : Program} (hl : laidOutB P = true) {W W' : World} (hb : Below W.heap.size W W') {sp : Nat → Bool} :
    ∀ {ts : List TypeId} {vs : List Value} {ds : List (DataW H)} {ps : List MemPlace}, (∀ t ∈ ts, P.readableRec t = true ∧ t < P.types.size) → DataW.TrodAll enc P W 0 (fun _ => true) true ts vs ds ps →
    (∀ x ∈ ps, x.block < W.heap.size) → (∀ x ∈ ps, sp x.block = true) → DataW.TrodAll enc P W' 0 sp true ts vs ds ps
  | [], vs, ds, ps, _, h, _, _ => by
    obtain ⟨rfl, rfl, rfl⟩ := trodAll_nil h
    exact h
  | t :: ts, vs, ds, ps, hr, h, hlt, hsp => by
    obtain ⟨v, vs1, d, ds1, a, b, rfl, rfl, rfl, h1, h2⟩ := trodAll_cons h
    refine ⟨a, b, ?_, trodAll_stays hl hb (fun t ht => hr t (by simp [ht])) h2 (fun x hx => hlt x (by simp [hx])) (fun x hx => hsp x (by simp [hx])), rfl⟩
    exact WideElems.Trod_stays hl (hr t (by simp)).1 (hr t (by simp)).2 h1 (fun x hx => hb.same (hlt x (by simp [hx]))) (fun x hx => hsp x (by simp [hx]))

theorem post_true {H : Type} {enc : TypeId × Value → H} {P : Program} (hl : laidOutB P = true) {f : Func} {s : ChangeSpec} {tb : TypeId} {apart fresh handsOn again b : Bool} {W W' : World} {args : Array Value} {ds gs : List (DataW H)} {before : List MemPlace}
    (hvars : s.vars = []) (hrt : f.resultTypes = #[tb]) (hub : P.underlying tb = some .bool) (hfn : s.fn H ds = { results := [.lit (.bool b)], args := ds })
    (hr : ∀ t ∈ f.params.toList, P.readableRec t = true ∧ t < P.types.size)
    (hW : DataW.Whole enc P f.params.toList s.vars apart W args.toList ds gs before) (hb : Below W.heap.size W W') : s.post enc P f apart fresh handsOn again W args (.bool b) W' := by
  have hlt := hW.lt
  obtain ⟨p, q, hA, hV, rfl, hz, hn⟩ := id hW
  rw [hvars] at hV
  obtain ⟨rfl, rfl⟩ := trodVars_none hV
  simp only [List.append_nil] at hlt hz hn hW
  have hres : ∀ (bb : Nat) (sp : Nat → Bool) (hd : Bool), DataW.TrodAll enc P W' bb sp hd f.resultTypes.toList ((Value.bool b).resultList f.resultTypes.size) [.lit (.bool b)] [] := by
    intro bb sp hd
    rw [hrt]
    exact trodAll_mk1 ⟨1, by simp [DataW.trod, Value.cells, hub]⟩
  have hargs : ∀ sp : Nat → Bool, (∀ x ∈ p, sp x.block = true) → DataW.TrodAll enc P W' 0 sp true f.params.toList args.toList ds p := fun sp hsp => trodAll_stays hl hb hr hA hlt hsp
  refine ⟨ds, [], p, [], p, [], by simpa using hW, ?_, ?_, ?_, World.keptBut_mono (fun x hx => hx.elim) (hb.frame fun _ => False), fun _ => ?_⟩
  · rw [List.append_nil, hfn]; exact hres _ _ _
  · rw [List.append_nil, hfn]; exact hargs _ (fun x hx => by simpa using hlt x hx)
  · rw [List.append_nil, hfn, hvars]; rfl
  · refine ⟨?_, [.lit (.bool b)] ++ ds, [], ([] ++ p) ++ [], ⟨[] ++ p, [], trodAll_append (hargs _ (fun _ _ => rfl)) (hres _ _ _), by rw [hvars]; rfl, rfl, ?_, ?_⟩, ?_⟩
    · intro j t r h1 h2
      rw [hrt] at h1
      have hj : j = 0 := by
        have := (Array.getElem?_eq_some_iff.1 h1).1
        simp at this
        omega
      subst hj
      simp at h1
      subst h1
      simp [hrt, Value.resultList] at h2
      subst h2
      simp [Value.okWide, hub, Cell.okWide, Cell.ok]
    · intro k off hp
      simp only [List.nil_append, List.append_nil] at hp
      rw [hb.frozen (hlt _ hp)]
      exact hz k off hp
    · intro ha
      simpa using hn ha
    · intro x hx _
      simpa using hx

end Go.Proofs.Ytdoboiiilcgbnaa.L
