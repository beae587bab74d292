/- WHAT IS PROVED: contracts of functions of the program, each by a walk of its code. Conditions: none. -/
import Derived.Test.YtdoboiiilcgbnaaM1
namespace Go.Proofs.Ytdoboiiilcgbnaa
open Go.Proofs Go.Proofs.Ytdoboiiilcgbnaa.L
set_option maxHeartbeats 1000000
set_option linter.unusedSimpArgs false
set_option linter.unusedVariables false

theorem rd_set {v : Vl} {st : List Int} {k : Nat} {x : Int} (h : v.kind = 1 → v.n.toNat ≠ k) : rd v (st.set k x) = rd v st := by
  unfold rd
  split
  · rename_i e
    rw [List.getD_eq_getElem?_getD, List.getD_eq_getElem?_getD, List.getElem?_set_ne (fun hh => h e hh.symm)]
  · rfl
theorem getD_set_ne {st : List Int} {k i : Nat} {x : Int} (h : k ≠ i) : (st.set k x).getD i 0 = st.getD i 0 := by
  rw [List.getD_eq_getElem?_getD, List.getD_eq_getElem?_getD, List.getElem?_set_ne h]
theorem getD_set_eq {st : List Int} {k : Nat} {x : Int} (h : k < st.length) : (st.set k x).getD k 0 = x := by
  rw [List.getD_eq_getElem?_getD, List.getElem?_set_self h]
  rfl
theorem runM_app : ∀ (out : List Mv) (m : Mv) (st : List Int), runM (out ++ [m]) st = (runM out st).set m.to.toNat (rd m.src (runM out st))
  | [], m, st => rfl
  | a :: out, m, st => by
    simp only [List.cons_append, runM]
    exact runM_app out m _
theorem runM_size : ∀ (l : List Mv) (out : List Int), (runM l out).length = out.length
  | [], out => rfl
  | m :: l, out => by rw [runM, runM_size l, List.length_set]
theorem runA_size (locs : List Int) : ∀ (l : List Mv) (out : List Int), (runA locs l out).length = out.length
  | [], out => rfl
  | m :: l, out => by rw [runA, runA_size locs l, List.length_set]
theorem runA_not (locs : List Int) {i : Nat} : ∀ (l : List Mv) (out : List Int), (∀ m ∈ l, m.to.toNat ≠ i) → (runA locs l out).getD i 0 = out.getD i 0
  | [], out, _ => rfl
  | m :: l, out, h => by
    rw [runA, runA_not locs l _ (fun n hn => h n (by simp [hn])), getD_set_ne (h m (by simp))]
theorem runA_mem (locs : List Int) : ∀ (l : List Mv) (out : List Int), (l.map Mv.to).Nodup → (∀ m ∈ l, 0 ≤ m.to ∧ m.to.toNat < out.length) → ∀ m ∈ l, (runA locs l out).getD m.to.toNat 0 = rd m.src locs
  | [], out, _, _, m, hm => by cases hm
  | a :: l, out, hn, hr, m, hm => by
    rw [List.map_cons, List.nodup_cons] at hn
    rw [runA]
    rcases List.mem_cons.1 hm with rfl | hm
    · rw [runA_not locs l _ (fun n hn' e => hn.1 (List.mem_map.2 ⟨n, hn', by have := (hr n (by simp [hn'])).1; have := (hr m (by simp)).1; omega⟩)), getD_set_eq (hr m (by simp)).2]
    · exact runA_mem locs l _ hn.2 (fun n hn' => by rw [List.length_set]; exact hr n (by simp [hn'])) m hm

theorem cut_mem {l : List Mv} {i : Nat} {m n : Mv} (hn : (l.map Mv.to).Nodup) (hm : l[i]? = some m) (h : n ∈ cut l i) : n ∈ l ∧ n.to ≠ m.to := by
  have hsub : (cut l i).Sublist l := by rw [cut_eq]; exact List.eraseIdx_sublist ..
  refine ⟨hsub.subset h, ?_⟩
  obtain ⟨hi, e⟩ := List.getElem?_eq_some_iff.1 hm
  unfold cut at h
  rcases List.mem_append.1 h with h | h
  · obtain ⟨k, hk, e2⟩ := List.mem_take_iff_getElem.1 h
    exact to_ne hn hm (List.getElem?_eq_some_iff.2 ⟨by omega, e2⟩) (by omega)
  · obtain ⟨k, hk, e2⟩ := List.mem_drop_iff_getElem.1 h
    exact to_ne hn hm (List.getElem?_eq_some_iff.2 ⟨by omega, e2⟩) (by omega)
theorem cut_in {l : List Mv} {i : Nat} {m n : Mv} (hm : l[i]? = some m) (h : n ∈ l) (hne : n ≠ m) : n ∈ cut l i := by
  obtain ⟨hi, e⟩ := List.getElem?_eq_some_iff.1 hm
  have := List.take_append_drop i l
  rw [drop_cons hm] at this
  rw [← this] at h
  unfold cut
  simp only [List.mem_append, List.mem_cons] at h ⊢
  rcases h with h | h | h
  · exact .inl h
  · exact absurd h hne
  · exact .inr h

structure SemI (sp : Int) (T : Nat → Int) (locs : List Int) (N : Nat) (left out : List Mv) (cyc : Int) : Prop where
  stat : ∀ m ∈ left, movOk m = true ∧ m.src ≠ ⟨1, m.to⟩ ∧ m.to ≠ sp
  ok : ∀ m ∈ out, movOk m = true
  val : ∀ m ∈ left, rd m.src (runM out locs) = T m.to.toNat
  fin : ∀ i : Nat, i < 22 → (i : Int) ≠ sp → (∀ m ∈ left, m.to ≠ (i : Int)) → (runM out locs).getD i 0 = T i
  cnt : (out.length : Int) + left.length = N + cyc
  crd : 2 * cyc + left.length ≤ N ∨ (2 * cyc + left.length ≤ N + 1 ∧ ∃ n ∈ left, n.src = ⟨1, sp⟩) ∨ (2 * cyc + left.length ≤ N + 2 ∧ ∃ n ∈ left, ∃ p ∈ left, n.src = ⟨1, sp⟩ ∧ p.src = ⟨1, n.to⟩ ∧ p.to ≠ n.to)

theorem sem_free {sp : Int} {T : Nat → Int} {locs : List Int} {N : Nat} (hlen : locs.length = 22) (left out : List Mv) (cyc : Int) (m : Mv) (hn : (left.map Mv.to).Nodup) (hm : left[freeIdx left]? = some m) (hb : blk left m = false)
    (h : SemI sp T locs N left out cyc) : SemI sp T locs N (cut left (freeIdx left)) (out ++ [m]) cyc := by
  have hml : m ∈ left := List.mem_of_getElem? hm
  have hlt : freeIdx left < left.length := (List.getElem?_eq_some_iff.1 hm).1
  have hmo := movOk_facts (h.stat m hml).1
  have hst : (runM out locs).length = 22 := by rw [runM_size, hlen]
  have hcl := cut_length hlt
  have hno : ∀ n ∈ left, n.to ≠ m.to → n.src ≠ ⟨1, m.to⟩ := by
    intro n hn' hne e
    have := List.any_eq_false.1 hb n hn'
    simp [waits, hne, e] at this
  refine ⟨fun n hn' => h.stat n (cut_mem hn hm hn').1, ?_, ?_, ?_, ?_, ?_⟩
  · intro n hn'
    rcases List.mem_append.1 hn' with hn' | hn'
    · exact h.ok n hn'
    · simp at hn'; subst hn'; exact (h.stat n hml).1
  · intro n hn'
    obtain ⟨h1, h2⟩ := cut_mem hn hm hn'
    rw [runM_app, rd_set]
    · exact h.val n h1
    · intro hk he
      have h3 := movOk_facts (h.stat n h1).1
      have h4 := h3.2.2 hk
      refine hno n h1 h2 ?_
      have h5 : n.src.n = m.to := by omega
      cases hs : n.src
      rw [hs] at hk h5
      simp at hk h5
      simp [hk, h5]
  · intro i hi hsp ha
    rw [runM_app]
    by_cases e : m.to = (i : Int)
    · have e2 : m.to.toNat = i := by omega
      rw [← e2, getD_set_eq (by omega)]
      exact h.val m hml
    · rw [getD_set_ne (by omega)]
      refine h.fin i hi hsp (fun n hn' => ?_)
      by_cases e3 : n = m
      · rw [e3]; exact e
      · exact ha n (cut_in hm hn' e3)
  · have := h.cnt
    rw [hcl]
    simp only [List.length_append, List.length_cons, List.length_nil]
    omega
  · rw [hcl]
    rcases h.crd with h1 | ⟨h1, -⟩ | ⟨h1, n, hn1, p, hp, e1, e2, e3⟩
    · left; omega
    · left; omega
    · right; left
      refine ⟨by omega, n, cut_in hm hn1 ?_, e1⟩
      intro e
      subst e
      have := List.any_eq_false.1 hb p hp
      simp [waits, e2, e3] at this

theorem sem_cyc {sp : Int} {T : Nat → Int} {locs : List Int} {N : Nat} (hlen : locs.length = 22) (hsp : locOk sp = true) (left out : List Mv) (cyc : Int) (m : Mv) (hn : (left.map Mv.to).Nodup) (hm : left[0]? = some m) (hb : ∀ n ∈ left, blk left n = true) (ha : ∀ n ∈ left, n.to ≠ sp)
    (h : SemI sp T locs N left out cyc) : SemI sp T locs N (left.map (fixS sp m.to)) (out ++ [⟨sp, ⟨1, m.to⟩⟩]) (cyc + 1) := by
  have hml : m ∈ left := List.mem_of_getElem? hm
  have hmo := movOk_facts (h.stat m hml).1
  have hst : (runM out locs).length = 22 := by rw [runM_size, hlen]
  have hab := all_blocked hn hb
  have hs0 : 0 ≤ sp ∧ sp < 22 := by simpa [locOk] using hsp
  have hnsp : ∀ n ∈ left, n.src ≠ ⟨1, sp⟩ := by
    intro n hn' e
    obtain ⟨q, hq, e2⟩ := hab n hn'
    rw [e2] at e
    simp at e
    exact ha q hq e
  refine ⟨?_, ?_, ?_, ?_, ?_, ?_⟩
  · intro q hq
    obtain ⟨n, hn', rfl⟩ := List.mem_map.1 hq
    have h1 := h.stat n hn'
    unfold fixS
    split
    · refine ⟨?_, ?_, h1.2.2⟩
      · have h2 := movOk_facts h1.1
        simp [movOk, locOk, valSome, valOk]
        omega
      · simp
        exact fun e => h1.2.2 e.symm
    · exact h1
  · intro q hq
    rcases List.mem_append.1 hq with hq | hq
    · exact h.ok q hq
    · simp at hq
      subst hq
      simp [movOk, locOk, valSome, valOk]
      omega
  · intro q hq
    obtain ⟨n, hn', rfl⟩ := List.mem_map.1 hq
    rw [runM_app, fix_to]
    have hv := h.val n hn'
    unfold fixS
    split
    · rename_i e
      rw [e] at hv
      have e1 : rd (⟨1, sp⟩ : Vl) ((runM out locs).set sp.toNat (rd ⟨1, m.to⟩ (runM out locs))) = rd ⟨1, m.to⟩ (runM out locs) := by
        conv => lhs; unfold rd
        simp only [if_true]
        exact getD_set_eq (by omega)
      exact e1.trans hv
    · obtain ⟨t, ht, e2⟩ := hab n hn'
      rw [rd_set]
      · exact hv
      · intro _ he
        rw [e2] at he
        have h1 := movOk_facts (h.stat t ht).1
        have h2 := ha t ht
        simp only at he
        omega
  · intro i hi hisp hh
    rw [runM_app, getD_set_ne (by simp only; omega)]
    refine h.fin i hi hisp (fun n hn' => ?_)
    have := hh _ (List.mem_map_of_mem (f := fixS sp m.to) hn')
    rwa [fix_to] at this
  · have := h.cnt
    simp only [List.length_append, List.length_cons, List.length_nil, List.length_map]
    omega
  · rw [List.length_map]
    have hA : 2 * cyc + left.length ≤ N := by
      rcases h.crd with h1 | ⟨-, n, hn1, e1⟩ | ⟨-, n, hn1, p, hp, e1, -, -⟩
      · exact h1
      · exact absurd e1 (hnsp n hn1)
      · exact absurd e1 (hnsp n hn1)
    right; right
    refine ⟨by omega, ?_⟩
    obtain ⟨n, hn1, hw⟩ := List.any_eq_true.1 (hb m hml)
    simp [waits] at hw
    obtain ⟨p, hp1, hw2⟩ := List.any_eq_true.1 (hb n hn1)
    simp [waits] at hw2
    refine ⟨_, List.mem_map_of_mem (f := fixS sp m.to) hn1, _, List.mem_map_of_mem (f := fixS sp m.to) hp1, ?_, ?_, ?_⟩
    · simp [fixS, hw.2]
    · rw [fix_to]
      simp [fixS, hw2.2, hw.1]
    · rw [fix_to, fix_to]; exact hw2.1

end Go.Proofs.Ytdoboiiilcgbnaa
