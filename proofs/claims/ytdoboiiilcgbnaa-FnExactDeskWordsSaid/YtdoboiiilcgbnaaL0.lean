/- WHAT IS PROVED: the abstract values of the walker, and when a value of the model is one of them. Conditions: none. -/
import Derived.Deep.MidRow
import Derived.Deep.AppendSrc
import Derived.Orders
import Derived.Below
namespace Go.Proofs.Ytdoboiiilcgbnaa.L
set_option linter.unusedVariables false
set_option linter.unusedSimpArgs false

/-- own: alone held, new; frz: never written any more; bor: lent for this call. -/
inductive Md where
  | own
  | frz
  | bor
  deriving DecidableEq

/-- Data. -/
inductive D where
  | p (v : Value)
  | row (m : Md) (s : Nat) (xs : List (List D))
  | ptr (m : Md) (cs : List D)

/-- What a slot or a cell holds; r: the number of an object. -/
inductive V where
  | d (x : D)
  | sl (r s i n : Nat)
  | mp (r s i j : Nat)
  | agg (cs : List V)
  | clo (f : FuncId) (cs : List V)
  | tup (cs : List V)
  | arr (s : Nat) (xs : List (List V))

/-- What a resource holds: a slot a value, an object rows of cells. -/
inductive C where
  | v (x : V)
  | o (s : Nat) (xs : List (List V))

inductive Res where
  | s (n : Nat)
  | r (n : Nat)
  deriving DecidableEq

abbrev Zone := Nat → Prop

/-- A block of cells that may be written, at least so many. -/
def Blk (w : World) (b n : Nat) : Prop := ∃ arr ty fz, w.heap[b]? = some (.cells arr ty fz) ∧ (∀ o, o < arr.size → ¬ (fz.1 ≤ o ∧ o < fz.2)) ∧ n ≤ arr.size

/-- The zone of a mode. -/
def Md.zone (m : Md) (Z B : Zone) : Zone := match m with
  | .own => fun _ => True
  | .frz => Z
  | .bor => B

def Md.foot (m : Md) (b : Nat) : List Nat := match m with
  | .own => [b]
  | _ => []

/-- Data, cell by cell; the footprint: the blocks that are alone held. -/
inductive RelDs (Z B : Zone) (w : World) : List D → List Value → List Nat → Prop
  | nil : RelDs Z B w [] [] []
  | p {v : Value} {ds : List D} {vs : List Value} {G : List Nat} : v.oneCell' = true → RelDs Z B w ds vs G → RelDs Z B w (.p v :: ds) (v :: vs) G
  | none {m : Md} {s : Nat} {A : Option Addr} {ds : List D} {vs : List Value} {G : List Nat} : RelDs Z B w ds vs G → RelDs Z B w (.row m s [] :: ds) (.slice A 0 0 :: vs) G
  | row {m : Md} {s b o c : Nat} {xs : List (List D)} {us : List Value} {F : List Nat} {ds : List D} {vs : List Value} {G : List Nat} :
      RelDs Z B w xs.flatten us F → w.rangeAt b o us → m.zone Z B b → (m = .own → Blk w b (o + c * s)) → (m ≠ .own → F = []) →
      (∀ x ∈ xs, x.length = s) → xs.length ≤ c → RelDs Z B w ds vs G →
      RelDs Z B w (.row m s xs :: ds) (.slice (some ⟨b, o, .none⟩) xs.length c :: vs) (m.foot b ++ F ++ G)
  | ptr {m : Md} {b o : Nat} {cs : List D} {us : List Value} {F : List Nat} {ds : List D} {vs : List Value} {G : List Nat} :
      RelDs Z B w cs us F → w.rangeAt b o us → m.zone Z B b → (m = .own → Blk w b (o + cs.length)) → (m ≠ .own → F = []) → RelDs Z B w ds vs G →
      RelDs Z B w (.ptr m cs :: ds) (.pointer (some ⟨b, o, .none⟩) :: vs) (m.foot b ++ F ++ G)

abbrev RelD (Z B : Zone) (w : World) (x : D) (v : Value) (F : List Nat) : Prop := RelDs Z B w [x] [v] F

abbrev Names := Nat → Option Addr

def SlOk (w : World) (ρ : Names) (r s i n : Nat) (A : Option Addr) (c : Nat) : Prop :=
  (n = 0 ∧ c = 0) ∨ (∃ b o, ρ r = some ⟨b, o, none⟩ ∧ A = some ⟨b, o + i * s, none⟩ ∧ Blk w b (o + (i + c) * s) ∧ n ≤ c)

inductive RelVs (Z B : Zone) (w : World) (ρ : Names) : List V → List Value → List Nat → Prop
  | nil : RelVs Z B w ρ [] [] []
  | d {x : D} {v : Value} {F : List Nat} {ds : List V} {vs : List Value} {G : List Nat} : RelDs Z B w [x] [v] F → RelVs Z B w ρ ds vs G → RelVs Z B w ρ (.d x :: ds) (v :: vs) (F ++ G)
  | sl {r s i n c : Nat} {A : Option Addr} {ds : List V} {vs : List Value} {G : List Nat} : SlOk w ρ r s i n A c → RelVs Z B w ρ ds vs G →
      RelVs Z B w ρ (.sl r s i n :: ds) (.slice A n c :: vs) G
  | mp {r s i j b o : Nat} {ds : List V} {vs : List Value} {G : List Nat} : ρ r = some ⟨b, o, .none⟩ → RelVs Z B w ρ ds vs G →
      RelVs Z B w ρ (.mp r s i j :: ds) (.pointer (some ⟨b, o + i * s + j, .none⟩) :: vs) G
  | agg {cs : List V} {us : List Value} {F : List Nat} {ds : List V} {vs : List Value} {G : List Nat} :
      RelVs Z B w ρ cs us F → (∀ v ∈ us, v.oneCell' = true) → RelVs Z B w ρ ds vs G → RelVs Z B w ρ (.agg cs :: ds) (.agg us.toArray :: vs) (F ++ G)
  | clo {f : FuncId} {cs : List V} {us : List Value} {F : List Nat} {ds : List V} {vs : List Value} {G : List Nat} :
      RelVs Z B w ρ cs us F → RelVs Z B w ρ ds vs G → RelVs Z B w ρ (.clo f cs :: ds) (.func (.func f) #[] us.toArray :: vs) (F ++ G)
  | tup {cs : List V} {us : List Value} {F : List Nat} {ds : List V} {vs : List Value} {G : List Nat} :
      RelVs Z B w ρ cs us F → RelVs Z B w ρ ds vs G → RelVs Z B w ρ (.tup cs :: ds) (.tuple us.toArray :: vs) (F ++ G)
  | arr {s b : Nat} {xs : List (List V)} {us : List Value} {F : List Nat} {ds : List V} {vs : List Value} {G : List Nat} :
      RelVs Z B w ρ xs.flatten us F → (∀ v ∈ us, v.oneCell' = true) → w.rangeAt b 0 us → Blk w b (xs.length * s) →
      (∀ x ∈ xs, x.length = s) → RelVs Z B w ρ ds vs G →
      RelVs Z B w ρ (.arr s xs :: ds) (.slice (some ⟨b, 0, .none⟩) xs.length xs.length :: vs) (b :: F ++ G)

abbrev RelV (Z B : Zone) (w : World) (ρ : Names) (x : V) (v : Value) (F : List Nat) : Prop := RelVs Z B w ρ [x] [v] F

/-- An object: rows of cells from its address on; without an address: no rows. -/
inductive RelO (Z B : Zone) (w : World) (ρ : Names) (r : Nat) : C → List Nat → Prop
  | none {s : Nat} : ρ r = .none → RelO Z B w ρ r (.o s []) []
  | some {s b o : Nat} {xs : List (List V)} {vs : List Value} {F : List Nat} : ρ r = .some ⟨b, o, .none⟩ → RelVs Z B w ρ xs.flatten vs F →
      (∀ v ∈ vs, v.oneCell' = true) → w.rangeAt b o vs → Blk w b (o + xs.length * s) → (∀ x ∈ xs, x.length = s) → RelO Z B w ρ r (.o s xs) (b :: F)

/-! ### Which names a value names -/

mutual
def V.inN (N : Nat → Prop) : V → Prop
  | .d _ => True
  | .sl r _ _ _ => N r
  | .mp r _ _ _ => N r
  | .agg cs => V.inNs N cs
  | .clo _ cs => V.inNs N cs
  | .tup cs => V.inNs N cs
  | .arr _ xs => V.inNss N xs
def V.inNs (N : Nat → Prop) : List V → Prop
  | [] => True
  | v :: vs => V.inN N v ∧ V.inNs N vs
def V.inNss (N : Nat → Prop) : List (List V) → Prop
  | [] => True
  | v :: vs => V.inNs N v ∧ V.inNss N vs
end

def C.inN (N : Nat → Prop) : C → Prop
  | .v x => x.inN N
  | .o _ xs => V.inNss N xs

/-! ### The state -/
structure Ctx where
  w0 : World
  M : Zone        -- the blocks that may be written
  Z : Zone
  B : Zone
  k : Nat         -- the objects that are handed in
  ρ : Names

structure Grow (w w' : World) : Prop where
  os : w'.os = w.os
  tape : w'.tape = w.tape
  output : w'.output = w.output
  size : w.heap.size ≤ w'.heap.size
  blk : ∀ b n, Blk w b n → Blk w' b n

theorem Grow.refl (w : World) : Grow w w := ⟨rfl, rfl, rfl, Nat.le_refl _, fun _ _ h => h⟩
theorem Grow.trans {a b c : World} (h : Grow a b) (k : Grow b c) : Grow a c :=
  ⟨k.os.trans h.os, k.tape.trans h.tape, k.output.trans h.output, Nat.le_trans h.size k.size, fun b n x => k.blk b n (h.blk b n x)⟩

end Go.Proofs.Ytdoboiiilcgbnaa.L
