/- WHAT IS PROVED: a function that borrows its first argument may also be given it for its own. Conditions: none. -/
import Derived.Test.YtdoboiiilcgbnaaL40
namespace Go.Proofs.Ytdoboiiilcgbnaa.L
set_option linter.unusedVariables false
set_option linter.unusedSimpArgs false

theorem SatP.lendHead {Γ : Ctx} {N : Nat → Prop} {st : St} {x : D} {ps : List V} {vals : List Value} {tm : Array Value} {w : World} (h : SatP Γ N st (.d x :: ps) vals tm w) : SatP Γ N st (.d x.lend :: ps) vals tm w := by
  obtain ⟨Z, B, ρ, F, hs⟩ := h
  obtain ⟨⟨Fp, hFp, hr⟩, hin⟩ := hs.pend
  obtain ⟨v, vs, Fx, G, rfl, rfl, h1, h2⟩ := hr.cons_split
  have hFx : ∀ b ∈ Fx, b ∈ F none := fun b hb => by rw [hFp]; simp [hb]
  have hG : ∀ b ∈ G, b ∈ F none := fun b hb => by rw [hFp]; simp [hb]
  have hnd := hs.nodup none
  rw [hFp, List.append_nil, List.nodup_append] at hnd
  have hnG : ∀ b ∈ G, b ∉ Fx := fun b hb hb' => hnd.2.2 b hb' b hb rfl
  refine ⟨Z, fun b => B b ∨ b ∈ Fx, ρ, fun y => match y with | none => G | some r => F (some r), ?_⟩
  refine hs.update (fun y => y = none) (Grow.refl _) (fun _ _ _ => rfl) (fun _ _ => rfl) ?_ (fun s _ hlt => ⟨hlt, rfl⟩) (fun hh => absurd rfl hh) (fun _ h => h) (fun _ _ => rfl) (fun _ h => h) (fun _ h => .inl h) (fun b hb => .inl (hs.zB b hb)) ?_ (fun _ h => .inl h) (fun s c hh => by cases hh) (fun r c hh => by cases hh) ?_ (fun y hh => by cases hh) ?_ ?_ ?_ ?_
  · intro y hy
    cases y with
    | none => exact absurd rfl hy
    | some r => rfl
  · rintro b (hb | hb)
    · exact .inl hb
    · exact .inr ⟨(hs.own none b (hFx b hb)).2.1, .inl ⟨none, rfl, hFx b hb⟩⟩
  · intro _
    refine ⟨⟨G, by simp, ?_⟩, hin⟩
    have e1 : RelVs Z (fun b => B b ∨ b ∈ Fx) w ρ ps vs G := h2.mono (N := N) hin.2 (fun _ _ => rfl) (fun _ _ => rfl) (fun _ _ => rfl) (fun _ _ => rfl) (fun _ h => h) (fun _ h => .inl h) (fun _ _ h => h)
    obtain ⟨Fd, e3, hd⟩ : ∃ Fd, Fx = Fd ∧ RelDs Z B w [x] [v] Fd := by
      cases h1 with
      | d h3 h4 => cases h4; exact ⟨_, by simp, h3⟩
    have e2 := hd.lend (B2 := fun b => B b ∨ b ∈ Fx) (fun b hb => .inr (by rw [e3]; exact hb)) (fun b hb => .inl hb) (fun b hb => .inl (hs.zB b hb))
    exact .d e2 e1
  · rintro y rfl
    exact hnd.2.1
  · rintro y z rfl rfl hne
    exact absurd rfl hne
  · rintro y rfl b hb
    exact .inl ⟨none, rfl, hG b hb⟩
  · rintro y rfl b hb
    refine ⟨(hs.own none b (hG b hb)).2.1, ?_⟩
    rintro (h | h)
    · exact (hs.own none b (hG b hb)).1 h
    · exact hnG b hb h

/-- A first argument that is borrowed may be given. -/
theorem con_own {P : Program} {f : FuncId} {x : D} {rest : List V} {v : V} {objs' : List C} (h : Con P f (.d x.lend :: rest) [] v objs') : Con P f (.d x :: rest) [] v objs' :=
  ⟨h.enters, ⟨trivial, h.inA.2⟩, h.inO, h.inV, h.inO', h.len, fun Γ vals w hk hsat => h.call Γ vals w hk hsat.lendHead⟩

end Go.Proofs.Ytdoboiiilcgbnaa.L
