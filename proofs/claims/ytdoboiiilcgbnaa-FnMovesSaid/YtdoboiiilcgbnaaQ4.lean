/- WHAT IS PROVED: contracts of functions of the program, each by a walk of its code. Conditions: none. -/
import Derived.Test.YtdoboiiilcgbnaaQ3
namespace Go.Proofs.Ytdoboiiilcgbnaa
open Go.Proofs Go.Proofs.Ytdoboiiilcgbnaa.L
set_option maxHeartbeats 1000000
set_option linter.unusedSimpArgs false
set_option linter.unusedVariables false

def flt (l : List Mv) : List Mv := l.filter fun m => decide (m.src ≠ ⟨1, m.to⟩)
def freeIdx (l : List Mv) : Nat := l.findIdx fun m => !blk l m
def fixS (sp t : Int) (m : Mv) : Mv := if m.src = ⟨1, t⟩ then ⟨m.to, ⟨1, sp⟩⟩ else m
def cut (l : List Mv) (i : Nat) : List Mv := l.take i ++ l.drop (i + 1)
def seqRun : Nat → Int → List Mv → List Mv → Int → List Mv × Int
  | 0, _, _, out, cyc => (out, cyc)
  | _ + 1, _, [], out, cyc => (out, cyc)
  | f + 1, sp, m :: l, out, cyc =>
    if freeIdx (m :: l) < (m :: l).length then seqRun f sp (cut (m :: l) (freeIdx (m :: l))) (out ++ [((m :: l)[freeIdx (m :: l)]?).getD m]) cyc
    else seqRun f sp ((m :: l).map (fixS sp m.to)) (out ++ [⟨sp, ⟨1, m.to⟩⟩]) (cyc + 1)
def seqOf (sp : Int) (l : List Mv) : List Mv × Int := seqRun (2 * l.length + 1) sp (flt l) [] 0
def need (l : List Mv) : Nat := if l = [] then 0 else if freeIdx l < l.length then 2 * l.length - 1 else 2 * l.length
structure SeqJ (sp : Int) (R : List Mv × Int) (f : Nat) (left out : List Mv) (cyc : Int) : Prop where
  run : seqRun f sp left out cyc = R
  nodup : (left.map Mv.to).Nodup
  apart : ∀ m ∈ left, m.to ≠ sp
  fuel : need left ≤ f
  lenO : out.length + f ≤ 90
  lenL : left.length ≤ 40
  cyc0 : 0 ≤ cyc
  cyc1 : cyc + f ≤ 90

theorem cut_eq (l : List Mv) (i : Nat) : cut l i = l.eraseIdx i := (List.eraseIdx_eq_take_drop_succ l i).symm
theorem cut_length {l : List Mv} {i : Nat} (h : i < l.length) : (cut l i).length = l.length - 1 := by rw [cut_eq, List.length_eraseIdx_of_lt h]
theorem fix_to (sp t : Int) (m : Mv) : (fixS sp t m).to = m.to := by unfold fixS; split <;> rfl
theorem fix_tos (sp t : Int) (l : List Mv) : (l.map (fixS sp t)).map Mv.to = l.map Mv.to := by
  rw [List.map_map]
  apply List.map_congr_left
  intro m _
  exact fix_to sp t m
theorem freeIdx_le (l : List Mv) : freeIdx l ≤ l.length := List.findIdx_le_length
theorem freeIdx_eq {l : List Mv} {k : Nat} {m : Mv} (h : l[k]? = some m) (hb : blk l m = false) (ha : ∀ n ∈ l.take k, blk l n = true) : freeIdx l = k := by
  obtain ⟨hk, e⟩ := List.getElem?_eq_some_iff.1 h
  unfold freeIdx
  rw [List.findIdx_eq hk]
  refine ⟨by rw [e, hb]; rfl, fun j hj => ?_⟩
  rw [ha _ (List.mem_take_iff_getElem.2 ⟨j, by omega, rfl⟩)]
  rfl
theorem freeIdx_none {l : List Mv} (ha : ∀ n ∈ l, blk l n = true) : freeIdx l = l.length := by
  unfold freeIdx
  rw [List.findIdx_eq_length]
  intro x hx
  rw [ha x hx]
  rfl
theorem need_le (l : List Mv) : need l ≤ 2 * l.length := by
  unfold need
  split
  · omega
  · split <;> omega
theorem seq_free {sp : Int} {R : List Mv × Int} {f : Nat} {left out : List Mv} {cyc : Int} {i : Nat} {m : Mv} (h : SeqJ sp R f left out cyc) (hi : freeIdx left = i) (hm : left[i]? = some m) : 1 ≤ f ∧ SeqJ sp R (f - 1) (cut left i) (out ++ [m]) cyc := by
  obtain ⟨hlt, e⟩ := List.getElem?_eq_some_iff.1 hm
  have hne : left ≠ [] := by intro e; subst e; simp at hlt
  have hf := h.fuel
  unfold need at hf
  rw [if_neg hne, if_pos (by omega)] at hf
  obtain ⟨g, rfl⟩ : ∃ g, f = g + 1 := ⟨f - 1, by omega⟩
  have hsub : (cut left i).Sublist left := by rw [cut_eq]; exact List.eraseIdx_sublist ..
  refine ⟨by omega, ?_, h.nodup.sublist (hsub.map _), fun n hn => h.apart n (hsub.subset hn), ?_, ?_, ?_, h.cyc0, ?_⟩
  · have := h.run
    cases left with
    | nil => exact absurd rfl hne
    | cons a l =>
      rw [seqRun, if_pos (by omega), hi, hm] at this
      exact this
  · have := need_le (cut left i)
    rw [cut_length hlt] at this
    omega
  · have := h.lenO; simp; omega
  · rw [cut_length hlt]; have := h.lenL; omega
  · have := h.cyc1; omega
theorem seq_cyc {sp : Int} {R : List Mv × Int} {f : Nat} {left out : List Mv} {cyc : Int} {m : Mv} (h : SeqJ sp R f left out cyc) (hi : ¬ freeIdx left < left.length) (hm : left[0]? = some m) : 1 ≤ f ∧ SeqJ sp R (f - 1) (left.map (fixS sp m.to)) (out ++ [⟨sp, ⟨1, m.to⟩⟩]) (cyc + 1) := by
  cases left with
  | nil => simp at hm
  | cons a l =>
    simp at hm
    subst hm
    have hf := h.fuel
    unfold need at hf
    rw [if_neg (by simp), if_neg hi] at hf
    simp only [List.length_cons] at hf
    obtain ⟨g, rfl⟩ : ∃ g, f = g + 1 := ⟨f - 1, by omega⟩
    have hap := h.apart a (by simp)
    refine ⟨by omega, ?_, by rw [fix_tos]; exact h.nodup, ?_, ?_, ?_, by simpa using h.lenL, by have := h.cyc0; omega, by have := h.cyc1; omega⟩
    · have := h.run
      rw [seqRun, if_neg hi] at this
      exact this
    · intro n hn
      obtain ⟨q, hq, rfl⟩ := List.mem_map.1 hn
      rw [fix_to]
      exact h.apart q hq
    · have h0 : freeIdx ((a :: l).map (fixS sp a.to)) = 0 := by
        refine freeIdx_eq (m := fixS sp a.to a) (by simp) ?_ (by simp)
        unfold blk
        rw [List.any_eq_false]
        intro n hn
        obtain ⟨q, hq, rfl⟩ := List.mem_map.1 hn
        unfold waits
        simp only [fix_to, Bool.and_eq_true, decide_eq_true_eq, not_and]
        intro _ e
        unfold fixS at e
        split at e
        · simp at e
          exact hap e.symm
        · rename_i h2
          exact h2 e
      unfold need
      rw [if_neg (by simp), h0, if_pos (by simp)]
      simp
      omega
    · have := h.lenO; simp; omega
theorem seq_end {sp : Int} {R : List Mv × Int} {f : Nat} {out : List Mv} {cyc : Int} (h : SeqJ sp R f [] out cyc) : R = (out, cyc) := by
  have := h.run
  cases f <;> simp [seqRun] at this <;> exact this.symm
theorem seq_begin {sp : Int} {l : List Mv} (hl : l.length ≤ 40) (hn : (l.map Mv.to).Nodup) (ha : ∀ m ∈ l, m.to ≠ sp) : SeqJ sp (seqOf sp l) (2 * l.length + 1) (flt l) [] 0 := by
  have hsub : (flt l).Sublist l := List.filter_sublist
  have hlen := hsub.length_le
  refine ⟨rfl, hn.sublist (hsub.map _), fun m hm => ha m (hsub.subset hm), ?_, by simp; omega, by omega, by omega, by omega⟩
  have := need_le (flt l)
  omega

end Go.Proofs.Ytdoboiiilcgbnaa
