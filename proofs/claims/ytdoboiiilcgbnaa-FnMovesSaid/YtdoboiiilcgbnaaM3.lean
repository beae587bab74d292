/- WHAT IS PROVED: contracts of functions of the program, each by a walk of its code. Conditions: none. -/
import Derived.Test.YtdoboiiilcgbnaaM2
namespace Go.Proofs.Ytdoboiiilcgbnaa
open Go.Proofs Go.Proofs.Ytdoboiiilcgbnaa.L
set_option maxHeartbeats 1000000
set_option linter.unusedSimpArgs false
set_option linter.unusedVariables false

theorem right_mem {l : List Mv} (h : (onceB l && rightB l) = true) : ∀ m ∈ l, movOk m = true := by
  simp [rightB] at h
  exact h.2.2
theorem seq_sem {l : List Mv} {sp : Int} {locs : List Int} (hok : (onceB l && rightB l) = true) (hsp : locOk sp = true) (hun : l.all (untouched sp) = true) (hlen : locs.length = 22) :
    SemI sp (fun i => (runA locs l locs).getD i 0) locs (flt l).length [] (seqOf sp l).1 (seqOf sp l).2 := by
  have hn := ok_nodup hok
  have hr := right_mem hok
  have hto := unt_to hun
  have hsub : (flt l).Sublist l := List.filter_sublist
  refine seq_rec (SemI sp (fun i => (runA locs l locs).getD i 0) locs (flt l).length) (fun left out cyc m h1 h2 h3 h4 => sem_free hlen left out cyc m h1 h2 h3 h4) (fun left out cyc m h1 h2 h3 h4 h5 => sem_cyc hlen hsp left out cyc m h1 h2 h3 h4 h5) _ _ _ _ (seq_begin (ok_len hok) hn hto) ?_
  have hmem : ∀ m ∈ l, (runA locs l locs).getD m.to.toNat 0 = rd m.src locs := runA_mem locs l locs hn (fun m hm => by have := movOk_facts (hr m hm); omega)
  refine ⟨fun m hm => ⟨hr m (hsub.subset hm), ?_, hto m (hsub.subset hm)⟩, by simp, fun m hm => (hmem m (hsub.subset hm)).symm, ?_, by simp, by simp⟩
  · have := (List.mem_filter.1 hm).2
    simpa using this
  · intro i hi hisp hh
    show locs.getD i 0 = (runA locs l locs).getD i 0
    by_cases he : ∃ m ∈ l, m.to = (i : Int)
    · obtain ⟨m, hm, e⟩ := he
      have hs : m.src = ⟨1, m.to⟩ := by
        by_cases h1 : m.src = ⟨1, m.to⟩
        · exact h1
        · exact absurd e (hh m (List.mem_filter.2 ⟨hm, by simpa using h1⟩))
      have := hmem m hm
      rw [hs] at this
      have e2 : m.to.toNat = i := by omega
      rw [e2] at this
      rw [this]
      unfold rd
      simp only [if_true]
      rw [e2]
    · rw [runA_not locs l locs (fun m hm e => he ⟨m, hm, by have := movOk_facts (hr m hm); omega⟩)]
theorem flt_22 {l : List Mv} (hok : (onceB l && rightB l) = true) : (flt l).length ≤ 22 := by
  have hn := ok_nodup hok
  have hr := right_mem hok
  have hsub : (flt l).Sublist l := List.filter_sublist
  have := nodup_le ((flt l).map Mv.to) ((List.range 22).map Int.ofNat) (hn.sublist (hsub.map _)) (fun x hx => by
    obtain ⟨m, hm, rfl⟩ := List.mem_map.1 hx
    have h1 := movOk_facts (hr m (hsub.subset hm))
    exact List.mem_map.2 ⟨m.to.toNat, List.mem_range.2 (by omega), Int.toNat_of_nonneg h1.1⟩)
  simpa using this
theorem seq_right {l : List Mv} {sp : Int} (hok : (onceB l && rightB l) = true) (hsp : locOk sp = true) (hun : l.all (untouched sp) = true) : (decide ((seqOf sp l).1.length ≤ 40) && (seqOf sp l).1.all movOk) = true := by
  have h := seq_sem (locs := List.replicate 22 0) hok hsp hun (by simp)
  have h1 := flt_22 hok
  have h2 := h.cnt
  have h3 := h.crd
  simp only [List.length_nil, List.not_mem_nil, false_and, exists_false, and_false, or_false] at h2 h3
  rw [Bool.and_eq_true, decide_eq_true_eq, List.all_eq_true]
  exact ⟨by omega, h.ok⟩

/-! ### the spare loc's name is all one to the cycles -/
def ren (a b : Int) (m : Mv) : Mv := if m.src = ⟨1, a⟩ then ⟨m.to, ⟨1, b⟩⟩ else m
theorem ren_to (a b : Int) (m : Mv) : (ren a b m).to = m.to := by unfold ren; split <;> rfl
theorem ren_waits {a b : Int} {m n : Mv} (h1 : m.to ≠ a) (h2 : m.to ≠ b) : waits (ren a b m) (ren a b n) = waits m n := by
  unfold waits
  rw [ren_to, ren_to]
  unfold ren
  split
  · rename_i e
    rw [e]
    have e1 : ¬ (⟨1, b⟩ : Vl) = ⟨1, m.to⟩ := by simp; exact fun e => h2 e.symm
    have e2 : ¬ (⟨1, a⟩ : Vl) = ⟨1, m.to⟩ := by simp; exact fun e => h1 e.symm
    simp [e1, e2]
  · rfl
theorem ren_free {a b : Int} {l : List Mv} (h : ∀ m ∈ l, m.to ≠ a ∧ m.to ≠ b) : freeIdx (l.map (ren a b)) = freeIdx l := by
  have hb : ∀ m ∈ l, blk (l.map (ren a b)) (ren a b m) = blk l m := by
    intro m hm
    unfold blk
    rw [List.any_map]
    congr 1
    funext n
    exact ren_waits (h m hm).1 (h m hm).2
  unfold freeIdx
  rw [List.findIdx_map]
  have : ∀ (l' : List Mv), (∀ m ∈ l', blk (l.map (ren a b)) (ren a b m) = blk l m) → l'.findIdx ((fun m => !blk (l.map (ren a b)) m) ∘ ren a b) = l'.findIdx fun m => !blk l m := by
    intro l'
    induction l' with
    | nil => intro _; rfl
    | cons x l' ih =>
      intro hh
      rw [List.findIdx_cons, List.findIdx_cons, ih (fun m hm => hh m (by simp [hm]))]
      simp only [Function.comp_apply, hh x (by simp)]
  exact this l hb
theorem ren_cut (a b : Int) (l : List Mv) (i : Nat) : (cut l i).map (ren a b) = cut (l.map (ren a b)) i := by
  unfold cut
  rw [List.map_append, List.map_take, List.map_drop]
theorem ren_fix {a b t : Int} (h1 : t ≠ a) (h2 : t ≠ b) (m : Mv) : ren a b (fixS a t m) = fixS b t (ren a b m) := by
  unfold fixS ren
  by_cases e1 : m.src = ⟨1, t⟩
  · have e2 : ¬ m.src = ⟨1, a⟩ := by rw [e1]; simp; exact h1
    simp [e1, h1]
  · by_cases e2 : m.src = ⟨1, a⟩
    · simp [e2, Ne.symm h1, Ne.symm h2]
    · simp [e1, e2]
theorem ren_run {a b : Int} : ∀ (f : Nat) (left out out' : List Mv) (cyc : Int), (∀ m ∈ left, m.to ≠ a ∧ m.to ≠ b) → (seqRun f a left out cyc).2 = (seqRun f b (left.map (ren a b)) out' cyc).2
  | 0, left, out, out', cyc, h => rfl
  | f + 1, [], out, out', cyc, h => rfl
  | f + 1, m :: l, out, out', cyc, h => by
    have hfr := ren_free h
    simp only [List.map_cons] at hfr ⊢
    rw [seqRun, seqRun, hfr]
    simp only [List.length_cons, List.length_map]
    split
    · rw [ren_run f (cut (m :: l) (freeIdx (m :: l))) _ (out' ++ [((ren a b m :: l.map (ren a b))[freeIdx (m :: l)]?).getD (ren a b m)]) cyc (fun n hn => h n (by
        have hsub : (cut (m :: l) (freeIdx (m :: l))).Sublist (m :: l) := by rw [cut_eq]; exact List.eraseIdx_sublist ..
        exact hsub.subset hn)), ren_cut]
      rfl
    · rw [ren_run f ((m :: l).map (fixS a m.to)) _ (out' ++ [⟨b, ⟨1, (ren a b m).to⟩⟩]) (cyc + 1) (fun n hn => by
        obtain ⟨q, hq, rfl⟩ := List.mem_map.1 hn
        rw [fix_to]
        exact h q hq)]
      have e : ((m :: l).map (fixS a m.to)).map (ren a b) = (ren a b m :: l.map (ren a b)).map (fixS b (ren a b m).to) := by
        have hm := h m (by simp)
        rw [ren_to]
        have : (ren a b m :: l.map (ren a b)) = (m :: l).map (ren a b) := rfl
        rw [this, List.map_map, List.map_map]
        apply List.map_congr_left
        intro q _
        exact ren_fix hm.1 hm.2 q
      rw [e]
theorem cyc_same {l : List Mv} {sp : Int} (hok : (onceB l && rightB l) = true) (hun : l.all (untouched sp) = true) : (seqOf sp l).2 = (seqOf (-1) l).2 := by
  have hsub : (flt l).Sublist l := List.filter_sublist
  unfold seqOf
  rw [ren_run (b := -1) _ _ _ [] _ (fun m hm => ⟨unt_to hun m (hsub.subset hm), ok_loc hok m (hsub.subset hm)⟩)]
  have e : (flt l).map (ren sp (-1)) = flt l := by
    have : ∀ m ∈ flt l, ren sp (-1) m = m := by
      intro m hm
      have := List.all_eq_true.1 hun m (hsub.subset hm)
      simp [untouched] at this
      simp [ren, this.2]
    conv => rhs; rw [← List.map_id (flt l)]
    exact List.map_congr_left this
  rw [e]

end Go.Proofs.Ytdoboiiilcgbnaa
