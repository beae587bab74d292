/- WHAT IS PROVED: contracts of functions of the program, each by a walk of its code. Conditions: none. -/
import Derived.Test.YtdoboiiilcgbnaaQ11
namespace Go.Proofs.Ytdoboiiilcgbnaa
open Go.Proofs Go.Proofs.Ytdoboiiilcgbnaa.L
set_option maxHeartbeats 1000000
set_option linter.unusedSimpArgs false
set_option linter.unusedVariables false

theorem seq_rec {sp : Int} {R : List Mv × Int} (I : List Mv → List Mv → Int → Prop)
    (hfree : ∀ left out cyc m, (left.map Mv.to).Nodup → left[freeIdx left]? = some m → blk left m = false → I left out cyc → I (cut left (freeIdx left)) (out ++ [m]) cyc)
    (hcyc : ∀ left out cyc m, (left.map Mv.to).Nodup → left[0]? = some m → (∀ n ∈ left, blk left n = true) → (∀ n ∈ left, n.to ≠ sp) → I left out cyc → I (left.map (fixS sp m.to)) (out ++ [⟨sp, ⟨1, m.to⟩⟩]) (cyc + 1)) :
    ∀ (f : Nat) (left out : List Mv) (cyc : Int), SeqJ sp R f left out cyc → I left out cyc → I [] R.1 R.2
  | 0, left, out, cyc, h, hI => by
    cases left with
    | nil => rw [seq_end h]; exact hI
    | cons a l =>
      have hf := h.fuel
      unfold need at hf
      simp only [reduceCtorEq, if_false, List.length_cons] at hf
      split at hf <;> omega
  | f + 1, left, out, cyc, h, hI => by
    cases left with
    | nil => rw [seq_end h]; exact hI
    | cons a l =>
      by_cases hfr : freeIdx (a :: l) < (a :: l).length
      · obtain ⟨q, hq⟩ := list_get hfr
        have hb : blk (a :: l) q = false := by
          obtain ⟨h1, h2⟩ := List.getElem?_eq_some_iff.1 hq
          have := List.findIdx_getElem (p := fun m => !blk (a :: l) m) (xs := a :: l) (w := hfr)
          have e : (a :: l)[List.findIdx (fun m => !blk (a :: l) m) (a :: l)] = q := h2
          rw [e] at this
          simpa using this
        exact seq_rec I hfree hcyc f _ _ _ (seq_free h rfl hq).2 (hfree _ _ _ _ h.nodup hq hb hI)
      · have hm : (a :: l)[0]? = some a := rfl
        have hall : ∀ n ∈ a :: l, blk (a :: l) n = true := by
          have e : freeIdx (a :: l) = (a :: l).length := by have := freeIdx_le (a :: l); omega
          intro x hx
          have := List.findIdx_eq_length.1 e x hx
          simpa using this
        exact seq_rec I hfree hcyc f _ _ _ (seq_cyc h hfr hm).2 (hcyc _ _ _ _ h.nodup hm hall h.apart hI)

theorem pigeon {α : Type} [DecidableEq α] : ∀ (xs ys : List α), xs.Nodup → (∀ x ∈ xs, x ∈ ys) → ys.length ≤ xs.length → ∀ y ∈ ys, y ∈ xs
  | [], ys, _, _, hl, y, hy => by
    have : ys = [] := List.eq_nil_of_length_eq_zero (by simpa using hl)
    subst this
    cases hy
  | x :: xs, ys, hn, hs, hl, y, hy => by
    rw [List.nodup_cons] at hn
    by_cases e : y = x
    · simp [e]
    · have hx : x ∈ ys := hs x (by simp)
      have hlen : (ys.erase x).length = ys.length - 1 := List.length_erase_of_mem hx
      have h1 : ∀ z ∈ xs, z ∈ ys.erase x := by
        intro z hz
        have hzx : z ≠ x := fun h => hn.1 (h ▸ hz)
        exact (List.mem_erase_of_ne hzx).2 (hs z (by simp [hz]))
      have := pigeon xs (ys.erase x) hn.2 h1 (by simp only [List.length_cons] at hl; omega) y ((List.mem_erase_of_ne e).2 hy)
      simp [this]

theorem nodup_le {α : Type} [DecidableEq α] : ∀ (xs ys : List α), xs.Nodup → (∀ x ∈ xs, x ∈ ys) → xs.length ≤ ys.length
  | [], ys, _, _ => by simp
  | x :: xs, ys, hn, hs => by
    rw [List.nodup_cons] at hn
    have hx : x ∈ ys := hs x (by simp)
    have hlen : (ys.erase x).length = ys.length - 1 := List.length_erase_of_mem hx
    have hpos : 0 < ys.length := List.length_pos_of_mem hx
    have := nodup_le xs (ys.erase x) hn.2 (fun z hz => (List.mem_erase_of_ne (fun h : z = x => hn.1 (h ▸ hz))).2 (hs z (by simp [hz])))
    simp only [List.length_cons]
    omega

/-- where none is free each From is another's To. -/
theorem all_blocked {left : List Mv} (hn : (left.map Mv.to).Nodup) (hb : ∀ n ∈ left, blk left n = true) : ∀ n ∈ left, ∃ m ∈ left, n.src = ⟨1, m.to⟩ := by
  have h1 : (left.map fun m => (⟨1, m.to⟩ : Vl)).Nodup := by
    have : (left.map fun m => (⟨1, m.to⟩ : Vl)) = (left.map Mv.to).map fun t => (⟨1, t⟩ : Vl) := by rw [List.map_map]; rfl
    rw [this]
    exact List.Pairwise.map _ (fun a b h e => h (by simpa using e)) hn
  have h2 : ∀ x ∈ left.map fun m => (⟨1, m.to⟩ : Vl), x ∈ left.map Mv.src := by
    intro x hx
    obtain ⟨m, hm, rfl⟩ := List.mem_map.1 hx
    obtain ⟨n, hn1, hn2⟩ := List.any_eq_true.1 (hb m hm)
    simp [waits] at hn2
    exact List.mem_map.2 ⟨n, hn1, hn2.2⟩
  intro n hn'
  obtain ⟨m, hm, e⟩ := List.mem_map.1 (pigeon _ _ h1 h2 (by simp) n.src (List.mem_map_of_mem hn'))
  exact ⟨m, hm, e.symm⟩

end Go.Proofs.Ytdoboiiilcgbnaa
