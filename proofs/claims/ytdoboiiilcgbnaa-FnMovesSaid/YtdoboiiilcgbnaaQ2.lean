/- WHAT IS PROVED: contracts of functions of the program, each by a walk of its code. Conditions: none. -/
import Derived.Test.YtdoboiiilcgbnaaQ1
namespace Go.Proofs.Ytdoboiiilcgbnaa
open Go.Proofs Go.Proofs.Ytdoboiiilcgbnaa.L
set_option maxHeartbeats 1000000
set_option linter.unusedSimpArgs false
set_option linter.unusedVariables false

def zMv : Mv := ⟨0, ⟨0, 0⟩⟩
def delMv (l : List Mv) (i : Nat) : List Mv := l.take i ++ l.drop (i + 1) ++ [zMv]
def valsM (l : List Mv) : List Value := l.flatMap fun m => [.int .i64 m.to, .int .i64 m.src.kind, .int .i64 m.src.n]
theorem valsM_length (l : List Mv) : (valsM l).length = 3 * l.length := by
  induction l with
  | nil => rfl
  | cons m l ih => simp only [valsM, List.flatMap_cons, List.length_append, List.length_cons, List.length_nil] at ih ⊢; omega
theorem valsM_drop (l : List Mv) (k : Nat) : (valsM l).drop (3 * k) = valsM (l.drop k) := by
  induction k generalizing l with
  | zero => simp
  | succ k ih =>
    cases l with
    | nil => simp [valsM]
    | cons m l =>
      have := ih l
      rw [show 3 * (k + 1) = 3 * k + 1 + 1 + 1 by omega]
      simp only [valsM, List.flatMap_cons, List.cons_append, List.nil_append, List.drop_succ_cons] at this ⊢
      exact this
theorem valsM_one (l : List Mv) : ∀ u ∈ valsM l, u.oneCell' = true := by
  intro u hu
  simp only [valsM, List.mem_flatMap] at hu
  obtain ⟨m, _, hu⟩ := hu
  simp at hu
  rcases hu with rfl | rfl | rfl <;> rfl
theorem valsM_append (a b : List Mv) : valsM (a ++ b) = valsM a ++ valsM b := by simp [valsM]
theorem dd_cells_len (l : List Mv) : ∀ x ∈ dd (l.map Mv.cells), x.length = 3 := by
  intro x hx
  simp only [dd, List.map_map, List.mem_map] at hx
  obtain ⟨m, _, rfl⟩ := hx
  rfl
theorem dd_flat (l : List Mv) : (dd (l.map Mv.cells)).flatten = (valsM l).map fun u => V.d (.p u) := by
  induction l with
  | nil => rfl
  | cons m l ih =>
    simp only [dd, List.map_cons, List.flatten_cons, valsM, List.flatMap_cons, List.map_append, List.map_map] at ih ⊢
    rw [ih]
    rfl
theorem rel_plain {Z B : Zone} {w : World} {ρ : Names} : ∀ {us : List Value} {vs : List Value} {G : List Nat}, RelVs Z B w ρ (us.map fun u => V.d (.p u)) vs G → vs = us
  | [], vs, G, h => by cases h; rfl
  | u :: us, vs, G, h => by
    obtain ⟨v, vs', Fx, G', rfl, rfl, h1, h2⟩ := RelVs.cons_split (x := V.d (.p u)) (ds := us.map fun u => V.d (.p u)) (by simpa using h)
    rw [rel_p h1, rel_plain h2]

theorem c_delete (l : List Mv) (i : Nat) (h : i < l.length) : Con Try.prog 76 [.sl 0 3 0 l.length, V.int i, V.int (i + 1 : Nat)] [.o 3 (dd (l.map Mv.cells))] (.sl 0 3 0 (l.length - 1)) [.o 3 (dd ((delMv l i).map Mv.cells))] := by
  refine ⟨Try.call76, by simp [V.inNs, V.inN], by simp [C.inN, inNss_dd], by simp [V.inN], by simp [C.inN, inNss_dd], rfl, ?_⟩
  rintro Γ vals w hk ⟨Z, B, ρ, F, hs⟩
  obtain ⟨⟨Fp, e1, hrel⟩, -⟩ := hs.pend
  obtain ⟨v0, vs1, F0, G1, rfl, -, r0, hrel⟩ := hrel.cons_split
  obtain ⟨v1, vs2, F1, G2, rfl, -, r1, hrel⟩ := hrel.cons_split
  obtain ⟨v2, vs3, F2, G3, rfl, -, r2, hrel⟩ := hrel.cons_split
  cases hrel
  obtain rfl := rel_p r1
  obtain rfl := rel_p r2
  cases r0 with
  | @sl _ _ _ _ c Ad _ _ _ hok _ =>
    rename_i ht
    cases ht
    rcases hok with ⟨h0, -⟩ | ⟨b, o, hρ, rfl, hblk, hnc⟩
    · omega
    simp only [Nat.zero_mul, Nat.zero_add, Nat.add_zero] at hblk ⊢
    have hst : (stO [C.o 3 (dd (l.map Mv.cells))]) (.r 0) = some (.o 3 (dd (l.map Mv.cells))) := rfl
    obtain ⟨us, G, hF, hrel, h1, hrange, -, huni, -⟩ := hs.objAt hst hρ
    rw [dd_flat] at hrel
    obtain rfl := rel_plain hrel
    have walk := del_walk b o c l.length i (i + 1) (valsM l) w hrange (valsM_length l) (valsM_one l) hblk hnc (by omega) (by omega) rfl
    refine walk.mono ?_
    rintro e w' ⟨rfl, rfl⟩
    refine ⟨_, (· < 1), rfl, Z, B, ρ, ?_⟩
    have hd := hs.drew
    obtain ⟨Fa, ha⟩ := hd.drop
    obtain ⟨Fb, hb⟩ := ha.drop
    obtain ⟨Fc, hc⟩ := hb.drop
    have key : ∀ (a m m' c' : List Mv) {F : Ix → List Nat} {w : World}, m.length = m'.length → SatF Γ Z B ρ F (· < 1) (stO [C.o 3 (dd ((a ++ (m ++ c')).map Mv.cells))]) [] [] [] #[] w →
        ∃ F', SatF Γ Z B ρ F' (· < 1) (stO [C.o 3 (dd ((a ++ (m' ++ c')).map Mv.cells))]) [] [] [] #[] (w.setCells b (o + 3 * a.length) (valsM m')) := by
      intro a m m' c' F w hm hh
      have h2 := hh.pushPlain (valsM m') (valsM_one m')
      obtain ⟨-, F', h3⟩ := h2.writeF (r := 0) (s := 3) (b := b) (o := o) (xs := dd ((a ++ (m ++ c')).map Mv.cells)) (xs' := dd ((a ++ (m' ++ c')).map Mv.cells)) (A := (valsM a).map fun u => V.d (.p u)) (M := (valsM m).map fun u => V.d (.p u)) (C := (valsM c').map fun u => V.d (.p u))
        rfl hρ (by rw [dd_flat, valsM_append, valsM_append, List.map_append, List.map_append]) (by rw [dd_flat, valsM_append, valsM_append, List.map_append, List.map_append])
        (by rw [List.length_map, List.length_map, valsM_length, valsM_length, hm]) (by rw [dd_length, dd_length]; simp; omega) (dd_cells_len _) (fun _ _ => inNss_dd _) (valsM_one m') (by rw [List.length_map])
      rw [List.length_map, valsM_length] at h3
      refine ⟨F', ?_⟩
      have e : upd (stO [C.o 3 (dd ((a ++ (m ++ c')).map Mv.cells))]) (.r 0) (some (.o 3 (dd ((a ++ (m' ++ c')).map Mv.cells)))) = stO [C.o 3 (dd ((a ++ (m' ++ c')).map Mv.cells))] := by
        funext x
        cases x with
        | s k => simp [upd, stO]
        | r k =>
          cases k with
          | zero => simp [upd, stO]
          | succ k => simp [upd, stO]
      rw [e] at h3
      exact h3
    have e0 : l.take i ++ ((l.drop i).take (l.length - 1 - i) ++ l.drop (l.length - 1)) = l := by
      have : l.drop (l.length - 1) = (l.drop i).drop (l.length - 1 - i) := by rw [List.drop_drop]; congr 1; omega
      rw [this, List.take_append_drop, List.take_append_drop]
    rw [← e0] at hc
    obtain ⟨Fd, hd1⟩ := key (l.take i) ((l.drop i).take (l.length - 1 - i)) (l.drop (i + 1)) (l.drop (l.length - 1)) (by simp; omega) hc
    rw [← List.append_nil (l.drop (l.length - 1)), ← List.append_assoc] at hd1
    obtain ⟨Fe, he1⟩ := key (l.take i ++ l.drop (i + 1)) (l.drop (l.length - 1)) [zMv] [] (by simp; omega) hd1
    have el : (l.take i).length = i := by simp; omega
    have el2 : (l.take i ++ l.drop (i + 1)).length = l.length - 1 := by simp; omega
    rw [el, el2, ← valsM_drop] at he1
    have ew : valsM [zMv] = [.int .i64 0, .int .i64 0, .int .i64 0] := rfl
    rw [ew, show o + 3 * i = o + i * 3 by omega, show o + 3 * (l.length - 1) = o + (i + (l.length - (i + 1))) * 3 by omega, List.append_nil] at he1
    refine ⟨_, he1.push (v := .sl 0 3 0 (l.length - 1)) ?_ (by simp [V.inN])⟩
    rw [show i + (l.length - (i + 1)) = l.length - 1 by omega]
    refine RelVs.sl (.inr ⟨b, o, hρ, by simp, ?_, by omega⟩) .nil
    rw [Nat.zero_add]
    exact setCells_blk b _ _ _ _ _ (setCells_blk b _ _ _ _ _ hblk)

end Go.Proofs.Ytdoboiiilcgbnaa
