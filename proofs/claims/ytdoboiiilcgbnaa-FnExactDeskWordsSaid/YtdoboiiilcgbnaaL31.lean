/- WHAT IS PROVED: what a row hands in, as data of the walker. Conditions: none. -/
import Derived.Test.YtdoboiiilcgbnaaL30
namespace Go.Proofs.Ytdoboiiilcgbnaa.L
open Go.ChangeShapes Go.WideShapes Go.RowKit
set_option linter.unusedVariables false
set_option linter.unusedSimpArgs false

inductive All2 {α β : Type} (R : α → β → Prop) : List α → List β → Prop
  | nil : All2 R [] []
  | cons {a : α} {b : β} {as : List α} {bs : List β} : R a b → All2 R as bs → All2 R (a :: as) (b :: bs)

def tileB (P : Program) : List Field → Nat → Nat → Bool
  | [], o, n => o == n
  | f :: fs, o, n => f.offset == o && tileB P fs (o + P.cellsOf f.type) n

def plainT (P : Program) : Nat → TypeId → Bool
  | 0, _ => false
  | n + 1, t => match P.underlying t with
    | some (.int _) => true
    | some .bool => true
    | some .string => true
    | some (.slice e) => decide (0 < P.cellsOf e) && plainT P n e
    | some (.struct fs) => tileB P fs.toList 0 (P.cellsOf t) && fs.toList.all fun f => plainT P n f.type
    | _ => false

def Shp (P : Program) : Nat → TypeId → List D → Prop
  | 0, _, _ => False
  | n + 1, t, ds => match P.underlying t with
    | some (.int k) => ∃ z, ds = [.p (.int k z)] ∧ (Lit.int k z).wf = true
    | some .bool => ∃ b, ds = [.p (.bool b)]
    | some .string => ∃ s : ByteArray, ds = [.p (.string s)] ∧ s.size ≤ maxLen
    | some (.slice e) => ∃ xs, ds = [.row .bor (P.cellsOf e) xs] ∧ xs.length ≤ maxLen ∧ ∀ x ∈ xs, Shp P n e x
    | some (.struct fs) => ∃ dss, ds = dss.flatten ∧ All2 (fun f d => Shp P n f.type d) fs.toList dss
    | _ => False

section
variable {H : Type} {enc : TypeId × Value → H} {P : Program} {w : World} {base : Nat} {spare : Nat → Bool} {held : Bool}

abbrev RelB (w : World) (ds : List D) (vs : List Value) : Prop := RelDs (fun _ => False) (fun k => k < w.heap.size) w ds vs []

/-- Rows that are read one after the other. -/
theorem rows_of {P : Program} {W : World} {b o s m : Nat} {e : TypeId} (hs : 0 < s) : ∀ (len j : Nat), (∀ i, i < len → ∃ (cs : List Value) (ds : List D), cs.length = s ∧ RelB W ds cs ∧ Shp P m e ds ∧ ∀ q, q < s → W.cell? ⟨b, o + (j + i) * s + q, none⟩ = cs[q]?) →
    ∃ (xs : List (List D)) (us : List Value), xs.length = len ∧ RelB W xs.flatten us ∧ (∀ x ∈ xs, x.length = s) ∧ (∀ x ∈ xs, Shp P m e x) ∧ W.rangeAt b (o + j * s) us
  | 0, j, _ => ⟨[], [], rfl, .nil, by simp, by simp, by intro j u h; simp at h⟩
  | len + 1, j, h => by
    obtain ⟨cs, ds, h1, h2, h3, h4⟩ := h 0 (by omega)
    obtain ⟨xs, us, k1, k2, k3, k4, k5⟩ := rows_of hs len (j + 1) (fun i hi => by
      obtain ⟨cs, ds, a1, a2, a3, a4⟩ := h (i + 1) (by omega)
      exact ⟨cs, ds, a1, a2, a3, fun q hq => by rw [← a4 q hq, show j + 1 + i = j + (i + 1) by omega]⟩)
    have hl : ds.length = s := by rw [h2.length, h1]
    refine ⟨ds :: xs, cs ++ us, by simp [k1], by simpa using RelDs.append h2 k2, ?_, ?_, ?_⟩
    · intro x hx
      rcases List.mem_cons.1 hx with rfl | hx
      · exact hl
      · exact k3 x hx
    · intro x hx
      rcases List.mem_cons.1 hx with rfl | hx
      · exact h3
      · exact k4 x hx
    · rw [rangeAt_append, h1]
      refine ⟨fun q u hq => ?_, by rw [show o + j * s + s = o + (j + 1) * s by rw [Nat.add_mul]; omega]; exact k5⟩
      have hq' : q < s := by rw [← h1]; exact (List.getElem?_eq_some_iff.1 hq).1
      have := h4 q hq'
      rw [Nat.add_zero] at this
      rw [this, hq]

theorem fields_of {P : Program} {W : World} {m N : Nat} {cs : List Value} (hN : N = cs.length) : ∀ (fl : List Field) (o : Nat), tileB P fl o N = true →
    (∀ f ∈ fl, ∃ ds, RelB W ds ((cs.drop f.offset).take (P.cellsOf f.type)) ∧ Shp P m f.type ds) → ∃ dss : List (List D), RelB W dss.flatten (cs.drop o) ∧ All2 (fun f d => Shp P m f.type d) fl dss
  | [], o, ht, _ => by
    simp only [tileB, beq_iff_eq] at ht
    exact ⟨[], by rw [List.drop_of_length_le (by omega)]; exact .nil, .nil⟩
  | f :: fl, o, ht, h => by
    simp only [tileB, Bool.and_eq_true, beq_iff_eq] at ht
    obtain ⟨ho, ht⟩ := ht
    obtain ⟨ds, h1, h2⟩ := h f (by simp)
    obtain ⟨dss, k1, k2⟩ := fields_of hN fl _ ht (fun g hg => h g (by simp [hg]))
    refine ⟨ds :: dss, ?_, .cons h2 k2⟩
    have := RelDs.append h1 k1
    rw [ho, ← List.drop_drop, List.take_append_drop] at this
    simpa using this

theorem trod_shape : ∀ (m fuel : Nat) (t : TypeId) (cs : List Value) (x : DataW H × List MemPlace), plainT P m t = true → DataW.trod enc P w base (fun _ => true) held fuel t cs = some x →
    ∃ ds, RelB w ds cs ∧ Shp P m t ds
  | 0, fuel, t, cs, x, hp, h => by cases hp
  | m + 1, fuel, t, cs, x, hp, h => by
    unfold plainT at hp
    split at hp
    · rename_i k hu
      obtain ⟨z, rfl, -, hw⟩ := DataW.trod_int hu h
      exact ⟨[.p (.int k z)], .p rfl .nil, by unfold Shp; rw [hu]; exact ⟨z, rfl, hw⟩⟩
    · rename_i hu
      obtain ⟨b, rfl, -⟩ := DataW.trod_bool hu h
      exact ⟨[.p (.bool b)], .p rfl .nil, by unfold Shp; rw [hu]; exact ⟨b, rfl⟩⟩
    · rename_i hu
      obtain ⟨s, rfl, -, hw⟩ := DataW.trod_string hu h
      exact ⟨[.p (.string s)], .p rfl .nil, by unfold Shp; rw [hu]; exact ⟨s, rfl, hw⟩⟩
    · rename_i e hu
      simp only [Bool.and_eq_true, decide_eq_true_eq] at hp
      rcases DataW.trod_slice hu h with ⟨rfl, -⟩ | ⟨a, len, cap, elems, rest, n, -, rfl, -, hb, hl, hm, hlen, hel, hsp, -⟩
      · exact ⟨[.row .bor (P.cellsOf e) []], .none .nil, by unfold Shp; rw [hu]; exact ⟨[], rfl, by simp, by simp⟩⟩
      · by_cases hc : cap = 0
        · have h0 : len = 0 := by omega
          subst hc; subst h0
          exact ⟨[.row .bor (P.cellsOf e) []], .none .nil, by unfold Shp; rw [hu]; exact ⟨[], rfl, by simp, by simp⟩⟩
        · -- all cells of the row, the spare ones too, are there
          obtain ⟨hrl, hr⟩ := hsp rfl
          have cell : ∀ i, i < cap → ∃ c2 y, w.cells? base (a.add (i * P.cellsOf e)) (P.cellsOf e) = some c2 ∧ DataW.trod enc P w base (fun _ => true) held n e c2 = some y := by
            intro i hi
            by_cases hil : i < len
            · have := hel i hil
              have hsome : elems[i]? = some elems[i] := List.getElem?_eq_getElem (by omega)
              rw [hsome] at this
              obtain ⟨c2, h1, h2⟩ := Option.bind_eq_some_iff.1 this
              exact ⟨c2, _, h1, h2⟩
            · have := hr (i - len) (by omega)
              have hsome : rest[i - len]? = some rest[i - len] := List.getElem?_eq_getElem (by omega)
              rw [hsome, show len + (i - len) = i by omega] at this
              obtain ⟨c2, h1, h2⟩ := Option.bind_eq_some_iff.1 this
              exact ⟨c2, _, h1, h2⟩
          have hspot : ∃ b o, a = ⟨b, o, none⟩ := by
            obtain ⟨b, o, sp⟩ := a
            cases sp with
            | none => exact ⟨b, o, rfl⟩
            | some q =>
              exfalso
              obtain ⟨c2, y, h1, -⟩ := cell 0 (by omega)
              obtain ⟨-, h3, h4⟩ := World.cells?_some h1
              have h5 := h4 0 hp.1
              have h6 : c2[0]? = some c2[0] := List.getElem?_eq_getElem (by omega)
              rw [h6] at h5
              simp [World.cell?, Addr.add] at h5
              split at h5 <;> simp_all
          obtain ⟨b, o, rfl⟩ := hspot
          obtain ⟨xs, us, k1, k2, k3, k4, k5⟩ := rows_of (W := w) (b := b) (o := o) (s := P.cellsOf e) (m := m) (e := e) (P := P) hp.1 len 0 (by
            intro i hi
            obtain ⟨c2, y, h1, h2⟩ := cell i (by omega)
            obtain ⟨ds, h3, h4⟩ := trod_shape m n e c2 y hp.2 h2
            obtain ⟨-, h5, h6⟩ := World.cells?_some h1
            refine ⟨c2, ds, h5, h3, h4, fun q hq => ?_⟩
            rw [← h6 q hq, Addr.add_mid, Addr.add_mid, Nat.zero_add])
          have hlt : b < w.heap.size := by
            obtain ⟨c2, y, h1, -⟩ := cell 0 (by omega)
            obtain ⟨-, h3, h4⟩ := World.cells?_some h1
            have h5 := h4 0 hp.1
            have h6 : c2[0]? = some c2[0] := List.getElem?_eq_getElem (by omega)
            rw [h6, Addr.add_mid, Addr.add_mid] at h5
            rcases Nat.lt_or_ge b w.heap.size with hlt | hge
            · exact hlt
            · simp [World.cell?, Array.getElem?_eq_none hge] at h5
          have hrow := RelDs.row (Z := fun _ => False) (B := fun k => k < w.heap.size) (m := .bor) (s := P.cellsOf e) (c := cap) k2 (by simpa using k5) hlt (fun hh => by cases hh) (fun _ => rfl) k3 (by omega) .nil
          rw [k1] at hrow
          exact ⟨[.row .bor (P.cellsOf e) xs], by simpa [Md.foot] using hrow, by unfold Shp; rw [hu]; exact ⟨xs, rfl, by omega, k4⟩⟩
    · rename_i fs hu
      simp only [Bool.and_eq_true, List.all_eq_true] at hp
      obtain ⟨xs, n, -, -, hl, hlen, hfield⟩ := DataW.trod_struct hu h
      obtain ⟨dss, k1, k2⟩ := fields_of (P := P) (W := w) (m := m) (cs := cs) hl.symm fs.toList 0 hp.1 (by
        intro f hf
        obtain ⟨i, hi⟩ := List.getElem?_of_mem hf
        have hi' : fs[i]? = some f := by simpa using hi
        have hlt : i < xs.length := by rw [hlen]; exact (Array.getElem?_eq_some_iff.1 hi').1
        have := hfield i f hi'
        rw [List.getElem?_eq_getElem hlt] at this
        exact trod_shape m n f.type _ _ (hp.2 f hf) this)
      exact ⟨dss.flatten, by simpa using k1, by unfold Shp; rw [hu]; exact ⟨dss, rfl, k2⟩⟩
    · cases hp

end
end Go.Proofs.Ytdoboiiilcgbnaa.L
