/- WHAT IS PROVED: contracts of functions of the program, each by a walk of its code. Conditions: none. -/
import Derived.Test.YtdoboiiilcgbnaaK8
import Derived.WalkKit
import Derived.Deep.LoopGhost
import Derived.Deep.RegionLaw
import Derived.Lib.SliceRun
import Derived.Shelf.RegionOpenPlain
import Derived.Sort.WalkB12
import Derived.Lib.Walk
namespace Go.Proofs.Ytdoboiiilcgbnaa
open Go.Proofs Go.Proofs.Ytdoboiiilcgbnaa.L
set_option maxHeartbeats 1000000
set_option linter.unusedSimpArgs false
set_option linter.unusedVariables false

open Go.Lib Go.Sort Go.Shelf Go.RowKit
theorem clear_one {P : Program} (w : World) (t e ty : TypeId) (z : Value) (zs : List Value) (ht : P.underlying t = some (.slice e)) (hv : ∀ w, (zeroValue e).run P w = .ok z w) (hz : z.cells = zs.toArray) (h1 : ∀ v ∈ zs, v.oneCell' = true) (b o c : Nat)
    (hc : ∀ j, j < zs.length → (w.cell? ⟨b, o + j, none⟩).isSome = true) (hf : ∀ j, j < zs.length → w.frozen? ⟨b, o + j, none⟩ = false) :
    (Builtin.clear_ #[t] ty #[.slice (some ⟨b, o, none⟩) 1 c]).run P w = .ok (.tuple #[]) (w.setCells b o zs) := by
  have hzc : (Builtin.zeroCells z.cells 1).toList = zs := by
    rw [hz]
    simp [Builtin.zeroCells]
    apply List.ext_getElem
    · simp
    · intro i h1 h2
      simp at h1
      simp [Nat.mod_eq_of_lt h1, h1]
  have hst := run_storeCells_cells (P := P) b o zs 0 w (by simpa using hc) (by simpa using hf) h1
  simp only [Nat.add_zero] at hst
  simp [Builtin.clear_, run_underlying ht, hv, hzc, hst]

set_option maxHeartbeats 4000000 in
set_option maxRecDepth 1000000 in
theorem del_walk (b o cap n i j : Nat) (us : List Value) (w : World) (hr : w.rangeAt b o us) (hl : us.length = 3 * n) (h1 : ∀ u ∈ us, u.oneCell' = true) (hb : Blk w b (o + cap * 3)) (hcap : n ≤ cap) (hij : i < j) (hj : j ≤ n) (hj1 : j = i + 1) :
    Calls Try.prog 76 #[.slice (some ⟨b, o, none⟩) n cap, .int .i64 i, .int .i64 j] w fun e w' => e = .returned (.slice (some ⟨b, o, none⟩) (i + (n - j)) cap) ∧
      w' = (w.drew.setCells b (o + i * 3) (us.drop (3 * j))).setCells b (o + (i + (n - j)) * 3) [.int .i64 0, .int .i64 0, .int .i64 0] := by
  have mixed : Try.prog.follows .mixedOrders = true := mixed
  obtain ⟨d0, i0, z0, hu0, hi0, hz0, hty⟩ := tyOf_spec ty59
  have hz1 : i0.size = 3 := by have := congrArg Ty.size hty; exact this.symm
  obtain ⟨news, hnews⟩ : ∃ news, news = us.drop (3 * j) := ⟨_, rfl⟩
  have hlen : news.length = (n - j) * 3 := by rw [hnews]; simp; omega
  have hget : ∀ t u, news[t]? = some u → w.cell? ⟨b, o + j * 3 + t, none⟩ = some u := by
    intro t u hu
    rw [hnews, List.getElem?_drop] at hu
    have := hr _ _ hu
    rw [← this]
    congr 2
    omega
  obtain ⟨Ad, hA, hsrc⟩ : ∃ Ad : Addr, (if cap = j then some (⟨b, o, none⟩ : Addr) else some ⟨b, o + j * 3, none⟩) = some Ad ∧ Hid (∀ t u, news[t]? = some u → w.drew.cell? (Ad.add t) = some u) := by
    by_cases h : cap = j
    · refine ⟨⟨b, o, none⟩, by simp [h], fun t u hu => ?_⟩
      have h0 : news.length = 0 := by rw [hlen]; omega
      rw [List.length_eq_zero_iff.1 h0] at hu
      simp at hu
    · refine ⟨⟨b, o + j * 3, none⟩, by simp [h], fun t u hu => ?_⟩
      rw [Addr.add_lit]
      exact hget t u hu
  have s1 : Hid (news.length = (n - j) * 3) := hlen
  have s2 : Hid (∀ u ∈ news, u.oneCell' = true) := by
    intro u hu
    rw [hnews] at hu
    exact h1 u (List.mem_of_mem_drop hu)
  have hb' : Blk w.drew b (o + cap * 3) := hb
  have s3 : Hid (∀ t, t < news.length → (w.drew.cell? ⟨b, o + i * 3 + t, none⟩).isSome = true ∧ w.drew.frozen? ⟨b, o + i * 3 + t, none⟩ = false) := by
    intro t ht
    rw [hlen] at ht
    exact hb'.there (o := o + i * 3) (m := (n - i) * 3) (by omega) t (by omega)
  obtain ⟨W1, hW1⟩ : ∃ W1, W1 = w.drew.setCells b (o + i * 3) news := ⟨_, rfl⟩
  have hb1 : Blk W1 b (o + cap * 3) := by rw [hW1]; exact setCells_blk b news _ _ _ _ hb'
  have X : Aside (W1 = w.drew.setCells b (o + i * 3) (us.drop (3 * j))) := by show W1 = _; rw [hW1, hnews]
  have hW : Hid (W1 = w.drew.setCells b (o + i * 3) news) := hW1
  have hcl : ∀ ty, (Builtin.clear_ #[37] ty #[.slice (some ⟨b, o + (i + (n - j)) * 3, none⟩) (n - (i + (n - j))) (cap - (i + (n - j)))]).run Try.prog W1 = .ok (.tuple #[]) (W1.setCells b (o + (i + (n - j)) * 3) [.int .i64 0, .int .i64 0, .int .i64 0]) := by
    intro ty
    rw [show n - (i + (n - j)) = 1 by omega]
    exact clear_one W1 _ _ ty _ _ Try.underlying37 Try.zeroValue59 rfl (by simp [Value.oneCell']) b _ _
      (fun q hq => (hb1.there (o := o + (i + (n - j)) * 3) (m := 3) (by omega) q (by simpa using hq)).1) (fun q hq => (hb1.there (o := o + (i + (n - j)) * 3) (m := 3) (by omega) q (by simpa using hq)).2)
  have hic : i ≤ cap := by omega
  have hjc : j ≤ cap := by omega
  have u37 := Try.underlying37
  clear hj1 hW1 hr hget hnews hlen hb hb' hb1 h1 hl
  go_enter Try.func76, Try.ntmps76
  go_wp2_with fail
  go_region_law_o (refine step_append_room rfl (.tmp 22) (.tmp 25) 37 rfl 59 i0 3 u37 hi0 hz1 b o i cap (by simp [Act.eval, Act.put]) Ad (n - j) (cap - j) news (by simp [Act.eval, Act.put]) s1.out hsrc.out s2.out (by omega) s3.out ?_; rw [← hW.out])
  go_wp2
  go_ret
  exact ⟨rfl, by rw [X.out]⟩

end Go.Proofs.Ytdoboiiilcgbnaa
