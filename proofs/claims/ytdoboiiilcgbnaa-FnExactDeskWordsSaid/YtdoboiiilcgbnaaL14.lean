/- WHAT IS PROVED: the abstract append and copy, and the conversions, tell what the model's do. Conditions: none. -/
import Derived.Test.YtdoboiiilcgbnaaL13
import Derived.Deep.Upon
import Derived.Lib.ConvBytes
import Derived.Laws.BytesArg
namespace Go.Proofs.Ytdoboiiilcgbnaa.L
set_option linter.unusedVariables false
set_option linter.unusedSimpArgs false

section
variable {P : Program} {Γ : Ctx} {Z B : Zone} {ρ : Names} {F : Ix → List Nat} {N : Nat → Prop} {st st' : St} {ps : List V} {vals : List Value} {X : List Nat} {tm : Array Value} {w : World}

/-- Where the rows that are read lie. -/
inductive SrcOf (w : World) : Value → Nat → List Value → Prop
  | nil {A : Option Addr} {c : Nat} : SrcOf w (.slice A 0 c) 0 []
  | cells {b o n c : Nat} {news : List Value} : w.rangeAt b o news → SrcOf w (.slice (some ⟨b, o, .none⟩) n c) n news
  | str {s : ByteArray} : SrcOf w (.string s) s.size (byteCells s)

theorem SrcOf.src {s : Nat} {tx : TypeId} {d : TypeDesc} {yv : Value} {n : Nat} {news : List Value} (h : SrcOf w yv n news) (hu : P.underlying tx = Option.some d) (hk : (TyK.of d).src = true)
    (hl : news.length = n * s) (h1 : ∀ u ∈ news, u.oneCell' = true) (hs : ∀ b, yv = .string b → s = 1) : Src P s tx yv n news w := by
  have kind : (∃ e', P.underlying tx = Option.some (.slice e')) ∨ P.underlying tx = Option.some .string := by
    rw [hu]
    cases d <;> simp_all [TyK.of, TyK.src]
  cases h with
  | nil =>
    rename_i A c
    cases A with
    | none => exact ⟨kind, fun _ => rfl, run_firstCells_none w s 0 0 c, run_firstCells_none w.drew s 0 0 c, by simp, by simp⟩
    | some a => exact ⟨kind, fun _ => rfl, run_firstCells_some w s 0 a 0 c [] (by simp) (by simp), run_firstCells_some w.drew s 0 a 0 c [] (by simp) (by simp), by simp, by simp⟩
  | cells hr =>
    rename_i b o c
    have hc : ∀ j u, news[j]? = Option.some u → w.cell? ((⟨b, o, .none⟩ : Addr).add j) = Option.some u := fun j u hj => by rw [Addr.add_mid]; exact hr j u hj
    exact ⟨kind, fun _ => rfl, run_firstCells_some w s n _ n c news hl hc, run_firstCells_some w.drew s n _ n c news hl (by simpa using hc), hl, h1⟩
  | str =>
    have := hs _ rfl
    subst this
    exact ⟨kind, fun _ => rfl, firstCells_string _ w, firstCells_string _ w.drew, hl, h1⟩

theorem undd_spec : ∀ {xs : List (List V)} {ds : List (List D)}, undd xs = some ds → xs = dd ds
  | [], ds, h => by simp [undd] at h; subst h; rfl
  | r :: rs, ds, h => by
    have hr : ∀ {r : List V} {d : List D}, undd.unddR r = some d → r = d.map V.d := by
      intro r
      induction r with
      | nil => intro d h; simp [undd.unddR] at h; subst h; rfl
      | cons x r ih =>
        intro d h
        cases x <;> simp [undd.unddR] at h
        obtain ⟨a, h1, rfl⟩ := h
        simp [ih h1]
    simp only [undd] at h
    split at h
    · rename_i d ds' h1 h2
      simp only [Option.some.injEq] at h
      subst h
      rw [hr h1, undd_spec h2]
      rfl
    · cases h

/-- The size of the rows of a slice. -/
theorem rows_sound {y : V} {ys : List (List D)} {yv : Value} {vc : List Value} {R W : List Res} {s : Nat} (hr : Run (rowsOfP y) st ys st' R W) (hsz : sizeFits y s)
    (h : SatF Γ Z B ρ F N st (y :: ps) (yv :: vc) X tm w) :
    ∃ F' news X', SatF Γ Z B ρ F' N st' (ys.flatten.map V.d ++ ps) (news ++ vc) X' tm w ∧ SrcOf w yv ys.length news ∧ (∀ x ∈ ys, x.length = s) ∧ news.length = ys.length * s ∧ (∀ u ∈ news, u.oneCell' = true) ∧
      (∀ b, yv = .string b → s = 1) ∧ ((∃ b, yv = .string b) ↔ ∃ b, y = .d (.p (.string b))) := by
  have rowcase : ∀ {m : Md} {s' : Nat} {st : St} {F : Ix → List Nat}, SatF Γ Z B ρ F N st (.d (.row m s' ys) :: ps) (yv :: vc) X tm w → s' = s →
      ∃ F' news X', SatF Γ Z B ρ F' N st (ys.flatten.map V.d ++ ps) (news ++ vc) X' tm w ∧ SrcOf w yv ys.length news ∧ (∀ x ∈ ys, x.length = s) ∧ news.length = ys.length * s ∧ (∀ u ∈ news, u.oneCell' = true) ∧ (∃ A n c, yv = .slice A n c) := by
    rintro m s' st F h rfl
    obtain ⟨G, H, e, g1, g2, n1, n2⟩ := h.headF
    cases g1 with
    | d t1 t2 =>
      cases t2
      cases t1 with
      | none t3 =>
        cases t3
        obtain ⟨F', h'⟩ := h.drop
        exact ⟨F', [], X, by simpa using h', .nil, by simp, by simp, by simp, _, _, _, rfl⟩
      | @row _ _ b o c _ us FF _ _ _ q1 q2 q3 q4 q5 q6 q7 q8 =>
        cases q8
        obtain ⟨F', _, h'⟩ := h.rehand (ps' := ys.flatten.map V.d ++ ps) (vals' := us ++ vc) (X' := m.foot b ++ X) (Fp' := FF ++ H) (RelVs.append (RelVs.ofD q1) g2)
          (by rw [inNs_append]; exact ⟨inNs_map_d _, n2⟩)
          (by rw [e]; intro hh; rw [List.nodup_iff_count] at hh ⊢; intro t; have hh := hh t; simp only [List.count_append, List.count_cons, List.count_nil] at hh ⊢; omega)
          (by rw [e]; intro x hx; simp only [List.mem_append, List.mem_cons] at hx ⊢; grind)
        exact ⟨F', us, _, h', .cells q2, q6, by rw [← q1.length, flatten_length q6], q1.one, _, _, _, rfl⟩
  unfold rowsOfP at hr
  split at hr
  · cases hr
    obtain ⟨F', news, X', a1, a2, a3, a4, a5, A, n, c, a6⟩ := rowcase h hsz
    exact ⟨F', news, X', a1, a2, a3, a4, a5, by rw [a6]; simp, by rw [a6]; simp⟩
  · cases hr
    obtain ⟨G, g⟩ := h.head
    have := rel_p g
    subst this
    obtain ⟨F', h'⟩ := h.drop
    exact ⟨F', [], X, by simpa using h', .nil, by simp, by simp, by simp, by simp, by simp⟩
  · rename_i r s' i n
    cases hr with
    | @get _ _ _ _ c _ _ _ c1 c2 =>
      dsimp only at c2
      split at c2
      · rename_i s2 xs
        cases c2 with
        | req g1 r1 =>
          obtain ⟨rfl, g1⟩ := g1
          obtain ⟨ds, st1, R1, W1, R2, W2, r2, r3, -, -⟩ := r1.bind_inv
          obtain ⟨g2, rfl⟩ := ofO_run r2
          cases r3 with
          | req g3 r4 =>
            cases r4
            have e1 := undd_spec g2
            obtain ⟨G, g⟩ := h.head
            cases g with
            | @sl _ _ _ _ c A _ _ _ t1 t2 =>
              cases t2
              obtain ⟨F1, h1⟩ := h.drop
              have hn : ys.length = n := by
                have := congrArg List.length e1
                rw [dd_length] at this
                simp at this
                omega
              rcases t1 with ⟨a1, a2⟩ | ⟨b, o, a1, a2, a3, a4⟩
              · subst a1
                have : ys = [] := List.length_eq_zero_iff.1 hn
                subst this
                exact ⟨F1, [], X, by simpa using h1, .nil, by simp, by simp, by simp, by simp, by simp⟩
              · obtain ⟨us, Gg, hF, hrel, h0, hrange, hblk, huni, hin⟩ := h1.objAt c1 a1
                rw [segs_of g1] at hrel
                obtain ⟨u1, u23, G1, G23, rfl, rfl, k1, k23⟩ := hrel.split
                obtain ⟨u2, u3, G2, G3, rfl, rfl, k2, k3⟩ := k23.split
                have hl1 : u1.length = i * s' := by rw [← k1.length, flatten_take_length huni (by omega)]
                rw [rangeAt_append, rangeAt_append, hl1] at hrange
                rw [e1, dd_flatten] at k2
                have k2' := RelVs.toD k2
                have hG2 : G2 = [] := lin_D k2' (fun x hx => by
                  obtain ⟨l, hl, hx⟩ := List.mem_flatten.1 hx
                  exact g3 l hl x hx)
                subst hG2
                obtain ⟨⟨Fp, p1, p2⟩, p3⟩ := h1.pend
                obtain ⟨F2, _, h2⟩ := h1.rehand (ps' := ys.flatten.map V.d ++ ps) (vals' := u2 ++ vc) (X' := X) (Fp' := [] ++ Fp) (RelVs.append k2 p2) (by rw [inNs_append]; exact ⟨inNs_map_d _, p3⟩) (by rw [p1]; simp) (by rw [p1]; simp)
                have hseg : ∀ x ∈ ys, x.length = s' := by
                  intro x hx
                  have hm : x.map V.d ∈ dd ys := List.mem_map_of_mem hx
                  rw [← e1] at hm
                  have := huni _ (List.mem_of_mem_drop (List.mem_of_mem_take hm))
                  simpa using this
                refine ⟨F2, u2, X, h2, ?_, ?_, ?_, fun u hu => h0 u (by simp [hu]), by simp, by simp⟩
                · rw [a2, hn]; exact .cells hrange.2.1
                · intro x hx; rw [hseg x hx]; exact hsz
                · rw [← k2'.length, flatten_length hseg]; rw [show s' = s from hsz]
      · cases c2
  · rename_i b
    cases hr
    obtain ⟨G, g⟩ := h.head
    have := rel_p g
    subst this
    obtain ⟨F', h'⟩ := h.drop
    have hone : ∀ u ∈ byteCells b, u.oneCell' = true := by
      intro u hu
      obtain ⟨_, _, rfl⟩ := List.mem_map.1 hu
      rfl
    have h2 := SatF.pushPlain (byteCells b) hone h'
    have e1 : ((byteRows b).flatten.map V.d) = (byteCells b).map fun u => V.d (.p u) := by
      unfold byteRows byteCells
      generalize b.data.toList = l
      induction l with
      | nil => rfl
      | cons x l ih => simp only [List.map_cons, List.flatten_cons, List.map_append, ih]; rfl
    have e2 : (byteRows b).length = b.size := by
      unfold byteRows
      rw [List.length_map, Array.length_toList]; rfl
    have hs1 : s = 1 := by simpa [sizeFits, V.rowSize] using hsz.symm
    subst hs1
    refine ⟨F', byteCells b, X, by rw [e1]; exact h2, by rw [e2]; exact .str, ?_, by rw [e2, byteCells_length, Nat.mul_one], hone, by simp, by simp⟩
    intro x hx
    obtain ⟨c, _, rfl⟩ := List.mem_map.1 hx
    rfl
  · rename_i s' xs
    have hres : Run (resV 7 (.arr s' xs)) st (.row .own s' ys) st' (R ++ []) (W ++ []) := by
      unfold resV
      exact Run.bind (f := fun ds => Prog.ret (D.row Md.own s' ds)) hr Run.ret
    obtain ⟨F1, h1⟩ := (res_sound 7).1 _ _ _ _ _ _ [] ps _ X F hres h
    obtain ⟨F', news, X', a1, a2, a3, a4, a5, A, n, c, a6⟩ := rowcase (st := st') h1 hsz
    exact ⟨F', news, X', a1, a2, a3, a4, a5, by rw [a6]; simp, by rw [a6]; simp⟩
  · cases hr

end
end Go.Proofs.Ytdoboiiilcgbnaa.L
