/- WHAT IS PROVED: an abstract walker over the model, what some functions of the program answer, and laws of these answers. Conditions: none. -/
import Derived.Deep.MidRow
import Derived.Deep.AppendSrc
import Derived.Orders
import Derived.Below
import Derived.Laws.StructEq
namespace Go.Proofs.YtdlaplgofgklnaaGreat.L
set_option linter.unusedVariables false
set_option linter.unusedSimpArgs false
inductive Md where
  | own
  | frz
  | bor
  deriving DecidableEq
inductive D where
  | p (v : Value)
  | row (m : Md) (s : Nat) (xs : List (List D))
  | ptr (m : Md) (cs : List D)
inductive V where
  | d (x : D)
  | sl (r s i n : Nat)
  | mp (r s i j : Nat)
  | agg (cs : List V)
  | clo (f : FuncId) (cs : List V)
  | tup (cs : List V)
  | arr (s : Nat) (xs : List (List V))
inductive C where
  | v (x : V)
  | o (s : Nat) (xs : List (List V))
inductive Res where
  | s (n : Nat)
  | r (n : Nat)
  deriving DecidableEq
abbrev Zone := Nat → Prop
def Blk (w : World) (b n : Nat) : Prop := ∃ arr ty fz, w.heap[b]? = some (.cells arr ty fz) ∧ (∀ o, o < arr.size → ¬ (fz.1 ≤ o ∧ o < fz.2)) ∧ n ≤ arr.size
def Md.zone (m : Md) (Z B : Zone) : Zone := match m with
  | .own => fun _ => True
  | .frz => Z
  | .bor => B
def Md.foot (m : Md) (b : Nat) : List Nat := match m with
  | .own => [b]
  | _ => []
inductive RelDs (Z B : Zone) (w : World) : List D → List Value → List Nat → Prop
  | nil : RelDs Z B w [] [] []
  | p {v : Value} {ds : List D} {vs : List Value} {G : List Nat} : v.oneCell' = true → RelDs Z B w ds vs G → RelDs Z B w (.p v :: ds) (v :: vs) G
  | none {m : Md} {s : Nat} {A : Option Addr} {ds : List D} {vs : List Value} {G : List Nat} : RelDs Z B w ds vs G → RelDs Z B w (.row m s [] :: ds) (.slice A 0 0 :: vs) G
  | row {m : Md} {s b o c : Nat} {xs : List (List D)} {us : List Value} {F : List Nat} {ds : List D} {vs : List Value} {G : List Nat} :
      RelDs Z B w xs.flatten us F → w.rangeAt b o us → m.zone Z B b → (m = .own → Blk w b (o + c * s)) → (m ≠ .own → F = []) →
      (∀ x ∈ xs, x.length = s) → xs.length ≤ c → RelDs Z B w ds vs G →
      RelDs Z B w (.row m s xs :: ds) (.slice (some ⟨b, o, .none⟩) xs.length c :: vs) (m.foot b ++ F ++ G)
  | ptr {m : Md} {b o : Nat} {cs : List D} {us : List Value} {F : List Nat} {ds : List D} {vs : List Value} {G : List Nat} :
      RelDs Z B w cs us F → w.rangeAt b o us → m.zone Z B b → (m = .own → Blk w b (o + cs.length)) → (m ≠ .own → F = []) → RelDs Z B w ds vs G →
      RelDs Z B w (.ptr m cs :: ds) (.pointer (some ⟨b, o, .none⟩) :: vs) (m.foot b ++ F ++ G)
abbrev RelD (Z B : Zone) (w : World) (x : D) (v : Value) (F : List Nat) : Prop := RelDs Z B w [x] [v] F
abbrev Names := Nat → Option Addr
def SlOk (w : World) (ρ : Names) (r s i n : Nat) (A : Option Addr) (c : Nat) : Prop :=
  (n = 0 ∧ c = 0) ∨ (∃ b o, ρ r = some ⟨b, o, none⟩ ∧ A = some ⟨b, o + i * s, none⟩ ∧ Blk w b (o + (i + c) * s) ∧ n ≤ c)
inductive RelVs (Z B : Zone) (w : World) (ρ : Names) : List V → List Value → List Nat → Prop
  | nil : RelVs Z B w ρ [] [] []
  | d {x : D} {v : Value} {F : List Nat} {ds : List V} {vs : List Value} {G : List Nat} : RelDs Z B w [x] [v] F → RelVs Z B w ρ ds vs G → RelVs Z B w ρ (.d x :: ds) (v :: vs) (F ++ G)
  | sl {r s i n c : Nat} {A : Option Addr} {ds : List V} {vs : List Value} {G : List Nat} : SlOk w ρ r s i n A c → RelVs Z B w ρ ds vs G →
      RelVs Z B w ρ (.sl r s i n :: ds) (.slice A n c :: vs) G
  | mp {r s i j b o : Nat} {ds : List V} {vs : List Value} {G : List Nat} : ρ r = some ⟨b, o, .none⟩ → RelVs Z B w ρ ds vs G →
      RelVs Z B w ρ (.mp r s i j :: ds) (.pointer (some ⟨b, o + i * s + j, .none⟩) :: vs) G
  | agg {cs : List V} {us : List Value} {F : List Nat} {ds : List V} {vs : List Value} {G : List Nat} :
      RelVs Z B w ρ cs us F → (∀ v ∈ us, v.oneCell' = true) → RelVs Z B w ρ ds vs G → RelVs Z B w ρ (.agg cs :: ds) (.agg us.toArray :: vs) (F ++ G)
  | clo {f : FuncId} {cs : List V} {us : List Value} {F : List Nat} {ds : List V} {vs : List Value} {G : List Nat} :
      RelVs Z B w ρ cs us F → RelVs Z B w ρ ds vs G → RelVs Z B w ρ (.clo f cs :: ds) (.func (.func f) #[] us.toArray :: vs) (F ++ G)
  | tup {cs : List V} {us : List Value} {F : List Nat} {ds : List V} {vs : List Value} {G : List Nat} :
      RelVs Z B w ρ cs us F → RelVs Z B w ρ ds vs G → RelVs Z B w ρ (.tup cs :: ds) (.tuple us.toArray :: vs) (F ++ G)
  | arr {s b : Nat} {xs : List (List V)} {us : List Value} {F : List Nat} {ds : List V} {vs : List Value} {G : List Nat} :
      RelVs Z B w ρ xs.flatten us F → (∀ v ∈ us, v.oneCell' = true) → w.rangeAt b 0 us → Blk w b (xs.length * s) →
      (∀ x ∈ xs, x.length = s) → RelVs Z B w ρ ds vs G →
      RelVs Z B w ρ (.arr s xs :: ds) (.slice (some ⟨b, 0, .none⟩) xs.length xs.length :: vs) (b :: F ++ G)
abbrev RelV (Z B : Zone) (w : World) (ρ : Names) (x : V) (v : Value) (F : List Nat) : Prop := RelVs Z B w ρ [x] [v] F
inductive RelO (Z B : Zone) (w : World) (ρ : Names) (r : Nat) : C → List Nat → Prop
  | none {s : Nat} : ρ r = .none → RelO Z B w ρ r (.o s []) []
  | some {s b o : Nat} {xs : List (List V)} {vs : List Value} {F : List Nat} : ρ r = .some ⟨b, o, .none⟩ → RelVs Z B w ρ xs.flatten vs F →
      (∀ v ∈ vs, v.oneCell' = true) → w.rangeAt b o vs → Blk w b (o + xs.length * s) → (∀ x ∈ xs, x.length = s) → RelO Z B w ρ r (.o s xs) (b :: F)
mutual
def V.inN (N : Nat → Prop) : V → Prop
  | .d _ => True
  | .sl r _ _ _ => N r
  | .mp r _ _ _ => N r
  | .agg cs => V.inNs N cs
  | .clo _ cs => V.inNs N cs
  | .tup cs => V.inNs N cs
  | .arr _ xs => V.inNss N xs
def V.inNs (N : Nat → Prop) : List V → Prop
  | [] => True
  | v :: vs => V.inN N v ∧ V.inNs N vs
def V.inNss (N : Nat → Prop) : List (List V) → Prop
  | [] => True
  | v :: vs => V.inNs N v ∧ V.inNss N vs
end
def C.inN (N : Nat → Prop) : C → Prop
  | .v x => x.inN N
  | .o _ xs => V.inNss N xs
def tabs : List (Nat × Array Value) := []
def TabW (w : World) (M B : Zone) : Prop := ∀ x ∈ tabs, B x.1 ∧ ¬ M x.1 ∧ ∃ t z, w.heap[x.1]? = some (.cells x.2 t z)
structure Ctx where
  w0 : World
  M : Zone        -- the blocks that may be written
  Z : Zone
  B : Zone
  k : Nat         -- the objects that are handed in
  ρ : Names
  tab : TabW w0 M B
structure Grow (w w' : World) : Prop where
  os : w'.os = w.os
  tape : w'.tape = w.tape
  output : w'.output = w.output
  size : w.heap.size ≤ w'.heap.size
  blk : ∀ b n, Blk w b n → Blk w' b n
theorem Grow.refl (w : World) : Grow w w := ⟨rfl, rfl, rfl, Nat.le_refl _, fun _ _ h => h⟩
theorem Grow.trans {a b c : World} (h : Grow a b) (k : Grow b c) : Grow a c :=
  ⟨k.os.trans h.os, k.tape.trans h.tape, k.output.trans h.output, Nat.le_trans h.size k.size, fun b n x => k.blk b n (h.blk b n x)⟩
theorem rangeAt_same {w w' : World} {b o : Nat} {us : List Value} (h : w'.heap[b]? = w.heap[b]?) (r : w.rangeAt b o us) : w'.rangeAt b o us :=
  fun j v hv => (World.cell?_of_block (a := ⟨b, o + j, none⟩) h).trans (r j v hv)
theorem Blk.same {w w' : World} {b n : Nat} (h : w'.heap[b]? = w.heap[b]?) (r : Blk w b n) : Blk w' b n := by
  obtain ⟨arr, ty, fz, h1, h2⟩ := r
  exact ⟨arr, ty, fz, h.trans h1, h2⟩
theorem Blk.le {w : World} {b n n' : Nat} (h : Blk w b n) (l : n' ≤ n) : Blk w b n' := by
  obtain ⟨arr, ty, fz, h1, h0, h2⟩ := h
  exact ⟨arr, ty, fz, h1, h0, Nat.le_trans l h2⟩
theorem Blk.lt {w : World} {b n : Nat} (h : Blk w b n) : b < w.heap.size := by
  obtain ⟨arr, ty, fz, h1, h2⟩ := h
  exact (Array.getElem?_eq_some_iff.1 h1).1
theorem Blk.there {w : World} {b n o m : Nat} (h : Blk w b n) (l : o + m ≤ n) : w.there b o m := by
  obtain ⟨arr, ty, fz, h1, h0, h2⟩ := h
  intro j hj
  constructor
  · simp only [World.cell?, h1]
    simp
    omega
  · have := h0 (o + j) (by omega)
    simp only [World.frozen?, h1, Bool.and_eq_false_iff, decide_eq_false_iff_not]
    rcases Nat.lt_or_ge (o + j) fz.1 with h | h
    · left; omega
    · right; omega
theorem Blk.isSome {w : World} {b n o : Nat} (h : Blk w b n) (l : o < n) : (w.cell? ⟨b, o, none⟩).isSome = true := by
  have := (h.there (o := o) (m := 1) (by omega) 0 (by omega)).1
  simpa using this
theorem RelDs.mono {Z B Z' B' : Zone} {w w' : World} {ds : List D} {vs : List Value} {F : List Nat} (h : RelDs Z B w ds vs F)
    (hF : ∀ b ∈ F, w'.heap[b]? = w.heap[b]?) (hz : ∀ b, Z b → w'.heap[b]? = w.heap[b]?) (hb : ∀ b, B b → w'.heap[b]? = w.heap[b]?)
    (hZ : ∀ b, Z b → Z' b) (hB : ∀ b, B b → B' b) : RelDs Z' B' w' ds vs F := by
  induction h with
  | nil => exact .nil
  | p h1 _ ih => exact .p h1 (ih hF)
  | none _ ih => exact .none (ih hF)
  | @row m s b o c xs us F ds vs G h1 h2 h3 h4 h5 h6 h7 h8 ih1 ih2 =>
    have hs : w'.heap[b]? = w.heap[b]? := by
      cases m with
      | own => exact hF b (by simp [Md.foot])
      | frz => exact hz b h3
      | bor => exact hb b h3
    refine .row (ih1 fun x hx => hF x (by simp [hx])) (rangeAt_same hs h2) ?_ (fun e => (h4 e).same hs) h5 h6 h7 (ih2 fun x hx => hF x (by simp [hx]))
    cases m with
    | own => trivial
    | frz => exact hZ b h3
    | bor => exact hB b h3
  | @ptr m b o cs us F ds vs G h1 h2 h3 h4 h5 h6 ih1 ih2 =>
    have hs : w'.heap[b]? = w.heap[b]? := by
      cases m with
      | own => exact hF b (by simp [Md.foot])
      | frz => exact hz b h3
      | bor => exact hb b h3
    refine .ptr (ih1 fun x hx => hF x (by simp [hx])) (rangeAt_same hs h2) ?_ (fun e => (h4 e).same hs) h5 (ih2 fun x hx => hF x (by simp [hx]))
    cases m with
    | own => trivial
    | frz => exact hZ b h3
    | bor => exact hB b h3
theorem SlOk.mono {w w' : World} {ρ ρ' : Names} {r s i n c : Nat} {A : Option Addr} (h : SlOk w ρ r s i n A c) (hρ : ρ' r = ρ r) (hb : ∀ b n, Blk w b n → Blk w' b n) :
    SlOk w' ρ' r s i n A c := by
  rcases h with h | ⟨b, o, h1, h2, h3, h4⟩
  · exact .inl h
  · exact .inr ⟨b, o, hρ.trans h1, h2, hb _ _ h3, h4⟩
theorem inNss_flatten {N : Nat → Prop} : ∀ {xs : List (List V)}, V.inNss N xs → V.inNs N xs.flatten
  | [], _ => trivial
  | [] :: xs, h => inNss_flatten (xs := xs) h.2
  | (x :: r) :: xs, h => by
    have := inNss_flatten (xs := r :: xs) ⟨h.1.2, h.2⟩
    exact ⟨h.1.1, this⟩
theorem inNs_append {N : Nat → Prop} : ∀ {a b : List V}, V.inNs N (a ++ b) ↔ V.inNs N a ∧ V.inNs N b
  | [], b => by simp [V.inNs]
  | x :: a, b => by simp [V.inNs, inNs_append (a := a) (b := b), and_assoc]
theorem inNs_iff {N : Nat → Prop} : ∀ {a : List V}, V.inNs N a ↔ ∀ x ∈ a, V.inN N x
  | [] => by simp [V.inNs]
  | x :: a => by simp [V.inNs, inNs_iff (a := a)]
theorem inNss_iff {N : Nat → Prop} : ∀ {a : List (List V)}, V.inNss N a ↔ ∀ x ∈ a, V.inNs N x
  | [] => by simp [V.inNss]
  | x :: a => by simp [V.inNss, inNss_iff (a := a)]
mutual
theorem V.inN_mono {N N' : Nat → Prop} (h : ∀ r, N r → N' r) : ∀ v : V, v.inN N → v.inN N'
  | .d _, _ => trivial
  | .sl .., x => h _ x
  | .mp .., x => h _ x
  | .agg cs, x => V.inNs_mono h cs x
  | .clo _ cs, x => V.inNs_mono h cs x
  | .tup cs, x => V.inNs_mono h cs x
  | .arr _ xs, x => V.inNss_mono h xs x
theorem V.inNs_mono {N N' : Nat → Prop} (h : ∀ r, N r → N' r) : ∀ v : List V, V.inNs N v → V.inNs N' v
  | [], _ => trivial
  | v :: vs, x => ⟨V.inN_mono h v x.1, V.inNs_mono h vs x.2⟩
theorem V.inNss_mono {N N' : Nat → Prop} (h : ∀ r, N r → N' r) : ∀ v : List (List V), V.inNss N v → V.inNss N' v
  | [], _ => trivial
  | v :: vs, x => ⟨V.inNs_mono h v x.1, V.inNss_mono h vs x.2⟩
end
theorem C.inN_mono {N N' : Nat → Prop} (h : ∀ r, N r → N' r) : ∀ c : C, c.inN N → c.inN N'
  | .v x, y => V.inN_mono h x y
  | .o _ xs, y => V.inNss_mono h xs y
theorem RelVs.mono {Z B Z' B' : Zone} {w w' : World} {ρ ρ' : Names} {N : Nat → Prop} {ds : List V} {vs : List Value} {F : List Nat} (h : RelVs Z B w ρ ds vs F)
    (hN : V.inNs N ds) (hρ : ∀ r, N r → ρ' r = ρ r)
    (hF : ∀ b ∈ F, w'.heap[b]? = w.heap[b]?) (hz : ∀ b, Z b → w'.heap[b]? = w.heap[b]?) (hb : ∀ b, B b → w'.heap[b]? = w.heap[b]?)
    (hZ : ∀ b, Z b → Z' b) (hB : ∀ b, B b → B' b) (hk : ∀ b n, Blk w b n → Blk w' b n) : RelVs Z' B' w' ρ' ds vs F := by
  induction h with
  | nil => exact .nil
  | d h1 _ ih => exact .d (h1.mono (fun x hx => hF x (by simp [hx])) hz hb hZ hB) (ih hN.2 fun x hx => hF x (by simp [hx]))
  | sl h1 _ ih => exact .sl (h1.mono (hρ _ hN.1) hk) (ih hN.2 hF)
  | mp h1 _ ih => exact .mp ((hρ _ hN.1).trans h1) (ih hN.2 hF)
  | agg h1 h2 h3 ih1 ih2 => exact .agg (ih1 hN.1 fun x hx => hF x (by simp [hx])) h2 (ih2 hN.2 fun x hx => hF x (by simp [hx]))
  | clo h1 h3 ih1 ih2 => exact .clo (ih1 hN.1 fun x hx => hF x (by simp [hx])) (ih2 hN.2 fun x hx => hF x (by simp [hx]))
  | tup h1 h3 ih1 ih2 => exact .tup (ih1 hN.1 fun x hx => hF x (by simp [hx])) (ih2 hN.2 fun x hx => hF x (by simp [hx]))
  | @arr s b xs us F ds vs G h1 h2 h3 h4 h5 h6 ih1 ih2 =>
    exact .arr (ih1 (inNss_flatten hN.1) fun x hx => hF x (by simp [hx])) h2 (rangeAt_same (hF b (by simp)) h3) (hk _ _ h4) h5 (ih2 hN.2 fun x hx => hF x (by simp [hx]))
theorem RelDs.length {Z B : Zone} {w : World} {ds : List D} {vs : List Value} {F : List Nat} (h : RelDs Z B w ds vs F) : ds.length = vs.length := by
  induction h <;> simp_all
theorem RelVs.length {Z B : Zone} {w : World} {ρ : Names} {ds : List V} {vs : List Value} {F : List Nat} (h : RelVs Z B w ρ ds vs F) : ds.length = vs.length := by
  induction h <;> simp_all
theorem RelDs.one {Z B : Zone} {w : World} {ds : List D} {vs : List Value} {F : List Nat} (h : RelDs Z B w ds vs F) : ∀ v ∈ vs, v.oneCell' = true := by
  induction h with
  | nil => intro v hv; cases hv
  | p h1 _ ih => intro v hv; cases hv with | head => exact h1 | tail _ h => exact ih v h
  | none _ ih => intro v hv; cases hv with | head => rfl | tail _ h => exact ih v h
  | row _ _ _ _ _ _ _ _ _ ih => intro v hv; cases hv with | head => rfl | tail _ h => exact ih v h
  | ptr _ _ _ _ _ _ _ ih => intro v hv; cases hv with | head => rfl | tail _ h => exact ih v h
theorem RelDs.append {Z B : Zone} {w : World} {a b : List D} {va vb : List Value} {Fa Fb : List Nat} (h : RelDs Z B w a va Fa) (k : RelDs Z B w b vb Fb) :
    RelDs Z B w (a ++ b) (va ++ vb) (Fa ++ Fb) := by
  induction h with
  | nil => exact k
  | p h1 _ ih => exact .p h1 ih
  | none _ ih => exact .none ih
  | row h1 h2 h3 h4 h5 h6 h7 _ _ ih => rw [List.append_assoc]; exact .row h1 h2 h3 h4 h5 h6 h7 ih
  | ptr h1 h2 h3 h4 h5 _ _ ih => rw [List.append_assoc]; exact .ptr h1 h2 h3 h4 h5 ih
theorem RelVs.append {Z B : Zone} {w : World} {ρ : Names} {a b : List V} {va vb : List Value} {Fa Fb : List Nat} (h : RelVs Z B w ρ a va Fa) (k : RelVs Z B w ρ b vb Fb) :
    RelVs Z B w ρ (a ++ b) (va ++ vb) (Fa ++ Fb) := by
  induction h with
  | nil => exact k
  | d h1 _ ih => rw [List.append_assoc]; exact .d h1 ih
  | sl h1 _ ih => exact .sl h1 ih
  | mp h1 _ ih => exact .mp h1 ih
  | agg h1 h2 _ _ ih => rw [List.append_assoc]; exact .agg h1 h2 ih
  | clo h1 _ _ ih => rw [List.append_assoc]; exact .clo h1 ih
  | tup h1 _ _ ih => rw [List.append_assoc]; exact .tup h1 ih
  | arr h1 h2 h3 h4 h5 _ _ ih => rw [List.append_assoc]; exact .arr h1 h2 h3 h4 h5 ih
theorem RelDs.cons_split {Z B : Zone} {w : World} {x : D} {ds : List D} {vs : List Value} {F : List Nat} (h : RelDs Z B w (x :: ds) vs F) :
    ∃ v vs' Fx G, vs = v :: vs' ∧ F = Fx ++ G ∧ RelD Z B w x v Fx ∧ RelDs Z B w ds vs' G := by
  cases h with
  | p h1 h2 => exact ⟨_, _, [], _, rfl, rfl, .p h1 .nil, h2⟩
  | none h1 => exact ⟨_, _, [], _, rfl, rfl, .none .nil, h1⟩
  | row h1 h2 h3 h4 h5 h6 h7 h8 => exact ⟨_, _, _, _, rfl, rfl, by simpa using RelDs.row h1 h2 h3 h4 h5 h6 h7 .nil, h8⟩
  | ptr h1 h2 h3 h4 h5 h6 => exact ⟨_, _, _, _, rfl, rfl, by simpa using RelDs.ptr h1 h2 h3 h4 h5 .nil, h6⟩
theorem RelVs.cons_split {Z B : Zone} {w : World} {ρ : Names} {x : V} {ds : List V} {vs : List Value} {F : List Nat} (h : RelVs Z B w ρ (x :: ds) vs F) :
    ∃ v vs' Fx G, vs = v :: vs' ∧ F = Fx ++ G ∧ RelV Z B w ρ x v Fx ∧ RelVs Z B w ρ ds vs' G := by
  cases h with
  | d h1 h2 => exact ⟨_, _, _, _, rfl, rfl, by simpa using RelVs.d h1 .nil, h2⟩
  | sl h1 h2 => exact ⟨_, _, [], _, rfl, rfl, .sl h1 .nil, h2⟩
  | mp h1 h2 => exact ⟨_, _, [], _, rfl, rfl, .mp h1 .nil, h2⟩
  | agg h1 h2 h3 => exact ⟨_, _, _, _, rfl, rfl, by simpa using RelVs.agg h1 h2 .nil, h3⟩
  | clo h1 h3 => exact ⟨_, _, _, _, rfl, rfl, by simpa using RelVs.clo h1 .nil, h3⟩
  | tup h1 h3 => exact ⟨_, _, _, _, rfl, rfl, by simpa using RelVs.tup h1 .nil, h3⟩
  | arr h1 h2 h3 h4 h5 h6 => exact ⟨_, _, _, _, rfl, rfl, by simpa using RelVs.arr h1 h2 h3 h4 h5 .nil, h6⟩
theorem RelDs.split {Z B : Zone} {w : World} : ∀ {a b : List D} {vs : List Value} {F : List Nat}, RelDs Z B w (a ++ b) vs F →
    ∃ va vb Fa Fb, vs = va ++ vb ∧ F = Fa ++ Fb ∧ RelDs Z B w a va Fa ∧ RelDs Z B w b vb Fb
  | [], b, vs, F, h => ⟨[], vs, [], F, rfl, rfl, .nil, h⟩
  | x :: a, b, vs, F, h => by
    obtain ⟨v, vs', Fx, G, rfl, rfl, h1, h2⟩ := RelDs.cons_split (ds := a ++ b) h
    obtain ⟨va, vb, Fa, Fb, rfl, rfl, h3, h4⟩ := RelDs.split h2
    exact ⟨v :: va, vb, Fx ++ Fa, Fb, rfl, by simp, RelDs.append h1 h3, h4⟩
theorem RelVs.split {Z B : Zone} {w : World} {ρ : Names} : ∀ {a b : List V} {vs : List Value} {F : List Nat}, RelVs Z B w ρ (a ++ b) vs F →
    ∃ va vb Fa Fb, vs = va ++ vb ∧ F = Fa ++ Fb ∧ RelVs Z B w ρ a va Fa ∧ RelVs Z B w ρ b vb Fb
  | [], b, vs, F, h => ⟨[], vs, [], F, rfl, rfl, .nil, h⟩
  | x :: a, b, vs, F, h => by
    obtain ⟨v, vs', Fx, G, rfl, rfl, h1, h2⟩ := RelVs.cons_split (ds := a ++ b) h
    obtain ⟨va, vb, Fa, Fb, rfl, rfl, h3, h4⟩ := RelVs.split h2
    exact ⟨v :: va, vb, Fx ++ Fa, Fb, rfl, by simp, RelVs.append h1 h3, h4⟩
theorem RelVs.ofD {Z B : Zone} {w : World} {ρ : Names} {ds : List D} {vs : List Value} {F : List Nat} (h : RelDs Z B w ds vs F) : RelVs Z B w ρ (ds.map .d) vs F := by
  induction ds generalizing vs F with
  | nil => cases h; exact .nil
  | cons x ds ih =>
    obtain ⟨v, vs', Fx, G, rfl, rfl, h1, h2⟩ := RelDs.cons_split h
    exact .d h1 (ih h2)
theorem RelVs.toD {Z B : Zone} {w : World} {ρ : Names} : ∀ {ds : List D} {vs : List Value} {F : List Nat}, RelVs Z B w ρ (ds.map .d) vs F → RelDs Z B w ds vs F
  | [], vs, F, h => by cases h; exact .nil
  | x :: ds, vs, F, h => by
    cases h with
    | d h1 h2 => exact RelDs.append h1 (RelVs.toD h2)
theorem rangeAt_append {w : World} {b o : Nat} {us vs : List Value} : w.rangeAt b o (us ++ vs) ↔ w.rangeAt b o us ∧ w.rangeAt b (o + us.length) vs := by
  constructor
  · intro h
    refine ⟨fun j v hv => h j v ?_, fun j v hv => ?_⟩
    · rw [List.getElem?_append_left (List.getElem?_eq_some_iff.1 hv).1]; exact hv
    · have := h (us.length + j) v (by rw [List.getElem?_append_right (by omega)]; simpa using hv)
      simpa [Nat.add_assoc] using this
  · rintro ⟨h1, h2⟩ j v hv
    rcases Nat.lt_or_ge j us.length with h | h
    · rw [List.getElem?_append_left h] at hv; exact h1 j v hv
    · rw [List.getElem?_append_right h] at hv
      have := h2 (j - us.length) v hv
      rwa [Nat.add_assoc, Nat.add_sub_cancel' h] at this
theorem flatten_at {α : Type} {xs : List (List α)} {i : Nat} {row : List α} (h : xs[i]? = some row) :
    xs.flatten = (xs.take i).flatten ++ (row ++ (xs.drop (i + 1)).flatten) := by
  have hi := (List.getElem?_eq_some_iff.1 h).1
  have e : xs = xs.take i ++ row :: xs.drop (i + 1) := by
    have := List.getElem?_eq_some_iff.1 h
    rw [← this.2]
    simp
  conv => lhs; rw [e]
  simp
theorem flatten_length {α : Type} {s : Nat} : ∀ {xs : List (List α)}, (∀ x ∈ xs, x.length = s) → xs.flatten.length = xs.length * s
  | [], _ => by simp
  | x :: xs, h => by
    have := flatten_length (s := s) (xs := xs) (fun y hy => h y (by simp [hy]))
    simp [this, h x (by simp), Nat.add_mul]; omega
theorem flatten_take_length {α : Type} {s i : Nat} {xs : List (List α)} (h : ∀ x ∈ xs, x.length = s) (hi : i ≤ xs.length) : (xs.take i).flatten.length = i * s := by
  rw [flatten_length (s := s) (fun x hx => h x (List.mem_of_mem_take hx))]
  simp [Nat.min_eq_left hi]
abbrev St := Res → Option C
inductive TyK where
  | int (k : IntKind)
  | bool
  | str
  | slice (e : TypeId)
  | ptr (e : TypeId)
  | struct (fs : List (Nat × TypeId))
  | array (n : Nat) (e : TypeId)
  | iface
  | other
  deriving DecidableEq
structure Ty where
  k : TyK
  size : Nat
  bytes : Nat
  zero : List Value
def TyK.agg : TyK → Bool
  | .struct _ => true
  | .array _ _ => true
  | _ => false
def TyK.of : TypeDesc → TyK
  | .int k => .int k
  | .bool => .bool
  | .string => .str
  | .slice e => .slice e
  | .pointer e => .ptr e
  | .struct fs => .struct (fs.toList.map fun f => (f.offset, f.type))
  | .array n e => .array n e
  | .interface _ => .iface
  | _ => .other
def tyOf (P : Program) (t : TypeId) : Option Ty :=
  match P.underlying t, P.info? t with
  | some d, some i => match i.zero with
    | some z => some { k := TyK.of d, size := i.size, bytes := i.bytes, zero := z.cells.toList }
    | none => none
  | _, _ => none
inductive Prog (α : Type) : Type 1 where
  | ret (a : α) : Prog α
  | fail : Prog α
  | get (r : Res) (k : C → Prog α) : Prog α
  | set (r : Res) (c : Option C) (k : Prog α) : Prog α
  | req (φ : Prop) (k : Prog α) : Prog α
  | any {β : Type} (φ : β → Prop) (k : β → Prog α) : Prog α
def Prog.bind {α β : Type} : Prog α → (α → Prog β) → Prog β
  | .ret a, f => f a
  | .fail, _ => .fail
  | .get r k, f => .get r fun c => (k c).bind f
  | .set r c k, f => .set r c (k.bind f)
  | .req φ k, f => .req φ (k.bind f)
  | .any φ k, f => .any φ fun b => (k b).bind f
def upd (st : St) (r : Res) (c : Option C) : St := fun x => if x = r then c else st x
inductive Run {α : Type} : Prog α → St → α → St → List Res → List Res → Prop
  | ret {a : α} {st : St} : Run (.ret a) st a st [] []
  | get {r : Res} {k : C → Prog α} {st st' : St} {c : C} {a : α} {R W : List Res} : st r = some c → Run (k c) st a st' R W → Run (.get r k) st a st' (r :: R) W
  | set {r : Res} {k : Prog α} {st st' : St} {c : Option C} {a : α} {R W : List Res} : Run k (upd st r c) a st' R W → Run (.set r c k) st a st' R (r :: W)
  | req {φ : Prop} {k : Prog α} {st st' : St} {a : α} {R W : List Res} : φ → Run k st a st' R W → Run (.req φ k) st a st' R W
  | any {β : Type} {φ : β → Prop} {k : β → Prog α} {st st' : St} {a : α} {b : β} {R W : List Res} : φ b → Run (k b) st a st' R W → Run (.any φ k) st a st' R W
theorem Run.bind {α β : Type} {p : Prog α} {f : α → Prog β} {st st' st'' : St} {a : α} {b : β} {R W R' W' : List Res}
    (h : Run p st a st' R W) (k : Run (f a) st' b st'' R' W') : Run (p.bind f) st b st'' (R ++ R') (W ++ W') := by
  induction h with
  | ret => exact k
  | get h1 _ ih => exact .get h1 (ih k)
  | set _ ih => exact .set (ih k)
  | req h1 _ ih => exact .req h1 (ih k)
  | any h1 _ ih => exact .any h1 (ih k)
theorem Run.bind_inv {α β : Type} : ∀ {p : Prog α} {f : α → Prog β} {st st'' : St} {b : β} {R W : List Res},
    Run (p.bind f) st b st'' R W → ∃ a st' R1 W1 R2 W2, Run p st a st' R1 W1 ∧ Run (f a) st' b st'' R2 W2 ∧ R = R1 ++ R2 ∧ W = W1 ++ W2
  | .ret a, f, st, st'', b, R, W, h => ⟨a, st, [], [], R, W, .ret, h, rfl, rfl⟩
  | .fail, f, st, st'', b, R, W, h => by cases h
  | .get r k, f, st, st'', b, R, W, h => by
    cases h with
    | get h1 h2 =>
      obtain ⟨a, st', R1, W1, R2, W2, h3, h4, rfl, rfl⟩ := Run.bind_inv (p := k _) h2
      exact ⟨a, st', r :: R1, W1, R2, W2, .get h1 h3, h4, rfl, rfl⟩
  | .set r c k, f, st, st'', b, R, W, h => by
    cases h with
    | set h2 =>
      obtain ⟨a, st', R1, W1, R2, W2, h3, h4, rfl, rfl⟩ := Run.bind_inv (p := k) h2
      exact ⟨a, st', R1, r :: W1, R2, W2, .set h3, h4, rfl, rfl⟩
  | .req φ k, f, st, st'', b, R, W, h => by
    cases h with
    | req h1 h2 =>
      obtain ⟨a, st', R1, W1, R2, W2, h3, h4, rfl, rfl⟩ := Run.bind_inv (p := k) h2
      exact ⟨a, st', R1, W1, R2, W2, .req h1 h3, h4, rfl, rfl⟩
  | .any φ k, f, st, st'', b, R, W, h => by
    cases h with
    | any h1 h2 =>
      obtain ⟨a, st', R1, W1, R2, W2, h3, h4, rfl, rfl⟩ := Run.bind_inv (p := k _) h2
      exact ⟨a, st', R1, W1, R2, W2, .any h1 h3, h4, rfl, rfl⟩
theorem Run.frame {α : Type} {p : Prog α} {st st' : St} {a : α} {R W : List Res} (h : Run p st a st' R W) : ∀ x, x ∉ W → st' x = st x := by
  induction h with
  | ret => intro x _; rfl
  | get _ _ ih => exact ih
  | set _ ih =>
    intro x hx
    have := ih x (fun hh => hx (by simp [hh]))
    rw [this]
    simp only [upd]
    rw [if_neg (fun e => hx (by simp [e]))]
  | req _ _ ih => exact ih
  | any _ _ ih => exact ih
theorem Run.local {α : Type} {p : Prog α} {st st' : St} {a : α} {R W : List Res} (h : Run p st a st' R W) :
    ∀ st2 : St, (∀ x, x ∈ R ∨ x ∈ W → st2 x = st x) → ∃ st2', Run p st2 a st2' R W ∧ ∀ x, x ∈ W → st2' x = st' x := by
  induction h with
  | ret => intro st2 _; exact ⟨st2, .ret, fun x hx => by cases hx⟩
  | @get r k st st' c a R W h1 _ ih =>
    intro st2 h2
    obtain ⟨st2', h3, h4⟩ := ih st2 (fun x hx => h2 x (by rcases hx with h | h <;> simp [h]))
    exact ⟨st2', .get ((h2 r (by simp)).trans h1) h3, h4⟩
  | @set r k st st' c a R W h1 ih =>
    intro st2 h2
    obtain ⟨st2', h3, h4⟩ := ih (upd st2 r c) (fun x hx => by
      simp only [upd]
      by_cases e : x = r
      · simp [e]
      · rw [if_neg e, if_neg e]
        exact h2 x (by rcases hx with h | h <;> simp [h]))
    refine ⟨st2', .set h3, fun x hx => ?_⟩
    by_cases hw : x ∈ W
    · exact h4 x hw
    · have hr : x = r := by
        cases hx with
        | head => rfl
        | tail _ h => exact absurd h hw
      rw [h3.frame x hw, h1.frame x hw, hr]
      simp [upd]
  | req h1 _ ih =>
    intro st2 h2
    obtain ⟨st2', h3, h4⟩ := ih st2 h2
    exact ⟨st2', .req h1 h3, h4⟩
  | any h1 _ ih =>
    intro st2 h2
    obtain ⟨st2', h3, h4⟩ := ih st2 h2
    exact ⟨st2', .any h1 h3, h4⟩
abbrev SL := List (Res × Option C)
def lk : SL → Res → Option C
  | [], _ => none
  | (x, c) :: l, r => if r = x then c else lk l r
def Prog.wp {α : Type} : Prog α → SL → List Res → List Res → (α → SL → List Res → List Res → Prop) → Prop
  | .ret a, st, R, W, K => K a st R W
  | .fail, _, _, _, _ => False
  | .get r k, st, R, W, K => match lk st r with
    | some c => (k c).wp st (r :: R) W K
    | none => False
  | .set r c k, st, R, W, K => k.wp ((r, c) :: st) R (r :: W) K
  | .req φ k, st, R, W, K => φ ∧ k.wp st R W K
  | .any φ k, st, R, W, K => ∃ b, φ b ∧ (k b).wp st R W K
theorem lk_cons (x : Res) (c : Option C) (l : SL) : lk ((x, c) :: l) = upd (lk l) x c := by
  funext r
  simp only [lk, upd]
theorem Prog.wp_run {α : Type} : ∀ {p : Prog α} {st : SL} {R W : List Res} {K : α → SL → List Res → List Res → Prop}, p.wp st R W K →
    ∃ a st' R' W' R2 W2, Run p (lk st) a (lk st') R' W' ∧ K a st' R2 W2 ∧ (∀ x, x ∈ R' ∨ x ∈ R → x ∈ R2) ∧ (∀ x, x ∈ W' ∨ x ∈ W → x ∈ W2)
  | .ret a, st, R, W, K, h => ⟨a, st, [], [], R, W, .ret, h, by simp, by simp⟩
  | .fail, _, _, _, _, h => h.elim
  | .get r k, st, R, W, K, h => by
    simp only [Prog.wp] at h
    split at h
    · rename_i c hc
      obtain ⟨a, st', R', W', R2, W2, h1, h2, h3, h4⟩ := Prog.wp_run h
      exact ⟨a, st', r :: R', W', R2, W2, .get hc h1, h2, fun x hx => h3 x (by simpa [or_assoc, or_comm, or_left_comm] using hx), h4⟩
    · exact h.elim
  | .set r c k, st, R, W, K, h => by
    simp only [Prog.wp] at h
    obtain ⟨a, st', R', W', R2, W2, h1, h2, h3, h4⟩ := Prog.wp_run h
    rw [lk_cons] at h1
    exact ⟨a, st', R', r :: W', R2, W2, .set h1, h2, h3, fun x hx => h4 x (by simpa [or_assoc, or_comm, or_left_comm] using hx)⟩
  | .req φ k, st, R, W, K, h => by
    simp only [Prog.wp] at h
    obtain ⟨a, st', R', W', R2, W2, h1, h2, h3, h4⟩ := Prog.wp_run h.2
    exact ⟨a, st', R', W', R2, W2, .req h.1 h1, h2, h3, h4⟩
  | .any φ k, st, R, W, K, h => by
    simp only [Prog.wp] at h
    obtain ⟨b, hb, h⟩ := h
    obtain ⟨a, st', R', W', R2, W2, h1, h2, h3, h4⟩ := Prog.wp_run h
    exact ⟨a, st', R', W', R2, W2, .any hb h1, h2, h3, h4⟩
theorem Prog.wp_bind {α β : Type} : ∀ (p : Prog α) (f : α → Prog β) (st : SL) (R W : List Res) (K : β → SL → List Res → List Res → Prop),
    (p.bind f).wp st R W K = p.wp st R W fun a st R W => (f a).wp st R W K
  | .ret a, f, st, R, W, K => rfl
  | .fail, f, st, R, W, K => rfl
  | .get r k, f, st, R, W, K => by
    simp only [Prog.bind, Prog.wp]
    split
    · exact Prog.wp_bind _ f st _ W K
    · rfl
  | .set r c k, f, st, R, W, K => by
    simp only [Prog.bind, Prog.wp]
    exact Prog.wp_bind k f _ R _ K
  | .req φ k, f, st, R, W, K => by
    simp only [Prog.bind, Prog.wp, Prog.wp_bind k f st R W K]
  | .any φ k, f, st, R, W, K => by
    simp only [Prog.bind, Prog.wp]
    exact propext ⟨fun ⟨b, hb, h⟩ => ⟨b, hb, (Prog.wp_bind (k b) f st R W K) ▸ h⟩, fun ⟨b, hb, h⟩ => ⟨b, hb, (Prog.wp_bind (k b) f st R W K).symm ▸ h⟩⟩
def D.lin : D → Bool
  | .row .own _ _ => true
  | .ptr .own _ => true
  | _ => false
mutual
def V.lin : V → Bool
  | .d x => x.lin
  | .sl _ _ _ _ => false
  | .mp _ _ _ _ => false
  | .agg cs => V.linL cs
  | .clo _ cs => V.linL cs
  | .tup cs => V.linL cs
  | .arr _ _ => true
def V.linL : List V → Bool
  | [] => false
  | v :: vs => v.lin || V.linL vs
end
abbrev V.int (n : Int) : V := .d (.p (.int .i64 n))
abbrev V.bool (b : Bool) : V := .d (.p (.bool b))
def dd (xs : List (List D)) : List (List V) := xs.map (·.map V.d)
abbrev nilS : Value := .slice none 0 0
def Prog.ofO {α : Type} : Option α → Prog α
  | some a => .ret a
  | none => .fail
def fetchP : Operand → Prog V
  | .const v => .req (v.oneCell' = true) (.ret (.d (.p v)))
  | .func f => .ret (.clo f [])
  | .global _ => .fail
  | .tmp t => .get (.s t) fun c => match c with
    | .v x => if x.lin then .set (.s t) none (.ret x) else .ret x
    | _ => .fail
def nameP (nm : Nat) : V → Prog V
  | .d (.row .own s xs) => .set (.r nm) (some (.o s (dd xs))) (.ret (.sl nm s 0 xs.length))
  | .d (.ptr .own cs) => .set (.r nm) (some (.o cs.length [cs.map V.d])) (.ret (.mp nm cs.length 0 0))
  | .arr s xs => .set (.r nm) (some (.o s xs)) (.ret (.sl nm s 0 xs.length))
  | v => .ret v
def fetchN (nm : Nat) (x : Operand) : Prog V := (fetchP x).bind (nameP nm)
def resV : Nat → V → Prog D
  | 0, _ => .fail
  | n + 1, v => match v with
    | .d x => .ret x
    | .sl r s i m => .get (.r r) fun c => match c with
      | .o s' xs => .req (s = s' ∧ i + m ≤ xs.length) (.set (.r r) none
          ((go n ((xs.drop i).take m)).bind fun ds => .ret (.row .own s ds)))
      | _ => .fail
    | .mp r s 0 0 => .get (.r r) fun c => match c with
      | .o s' [cs] => .set (.r r) none ((gol n cs).bind fun ds => .ret (.ptr .own ds))
      | _ => .fail
    | .arr s xs => (go n xs).bind fun ds => .ret (.row .own s ds)
    | _ => .fail
where
  go (n : Nat) : List (List V) → Prog (List (List D))
    | [] => .ret []
    | x :: xs => (gol n x).bind fun d => (go n xs).bind fun ds => .ret (d :: ds)
  gol (n : Nat) : List V → Prog (List D)
    | [] => .ret []
    | x :: xs => (resV n x).bind fun d => (gol n xs).bind fun ds => .ret (d :: ds)
abbrev resRows (xs : List (List V)) : Prog (List (List D)) := resV.go 6 xs
abbrev resRow (xs : List V) : Prog (List D) := resV.gol 6 xs
def V.cells : V → Option (List V)
  | .agg cs => some cs
  | .tup _ => none
  | .arr _ _ => none
  | v => some [v]
def cellsP : V → Prog (List V)
  | .agg cs => .ret cs
  | .arr s xs => (resRows xs).bind fun ds => .ret [.d (.row .own s ds)]
  | .tup _ => .fail
  | v => .ret [v]
def outP (nm : Nat) : List V → Nat → Prog (List V)
  | [], _ => .ret []
  | v :: vs, c => (nameP (nm + c) v).bind fun v' => (outP nm vs (c + 1)).bind fun r => .ret (v' :: r)
def setSeg {α : Type} (row : List α) (j : Nat) (cs : List α) : List α := row.take j ++ cs ++ row.drop (j + cs.length)
def asVal (agg : Bool) (cs : List V) : Prog V :=
  if agg then .ret (.agg cs) else match cs with
    | [v] => .ret v
    | _ => .fail
def loadP (P : Program) (t : TypeId) (nm : Nat) : V → Prog V
  | .mp r s i j => (Prog.ofO (tyOf P t)).bind fun ty => .get (.r r) fun c => match c with
    | .o s' xs => (Prog.ofO (xs[i]?)).bind fun row => .req (s = s' ∧ j + ty.size ≤ row.length)
      (if V.linL ((row.drop j).take ty.size) then .req (ty.size ≤ 64)
        ((outP nm ((row.drop j).take ty.size) 0).bind fun r' => .req (V.linL r' = false)
          (.set (.r r) (some (.o s (xs.set i (setSeg row j r')))) (asVal ty.k.agg r')))
      else asVal ty.k.agg ((row.drop j).take ty.size))
    | _ => .fail
  | .d (.ptr .frz cs) => (Prog.ofO (tyOf P t)).bind fun ty => .req (ty.size ≤ cs.length) (asVal ty.k.agg ((cs.take ty.size).map .d))
  | .d (.ptr .bor cs) => (Prog.ofO (tyOf P t)).bind fun ty => .req (ty.size ≤ cs.length) (asVal ty.k.agg ((cs.take ty.size).map .d))
  | _ => .fail
def storeP (P : Program) (t : TypeId) (v : V) : V → Prog V
  | .mp r s i j => (Prog.ofO (tyOf P t)).bind fun ty => (cellsP v).bind fun cs => .get (.r r) fun c => match c with
    | .o s' xs => (Prog.ofO (xs[i]?)).bind fun row => .req (s = s' ∧ j + cs.length ≤ row.length ∧ cs.length = ty.size)
        (.set (.r r) (some (.o s (xs.set i (setSeg row j cs)))) (.ret (.tup [])))
    | _ => .fail
  | _ => .fail
def V.asInt : V → Option Int
  | .d (.p (.int _ n)) => some n
  | _ => none
def indexAddrP (P : Program) (t : TypeId) (v : V) (i : Int) : Prog V :=
  (Prog.ofO (tyOf P t)).bind fun ty => match ty.k with
    | .slice e => (Prog.ofO (tyOf P e)).bind fun te => match v with
      | .sl r s i0 n => .req (s = te.size ∧ 0 ≤ i ∧ i < n) (.ret (.mp r s (i0 + i.toNat) 0))
      | .d (.row .frz s xs) => .req (s = te.size ∧ 0 ≤ i ∧ i < xs.length) ((Prog.ofO (xs[i.toNat]?)).bind fun row => .ret (.d (.ptr .frz row)))
      | .d (.row .bor s xs) => .req (s = te.size ∧ 0 ≤ i ∧ i < xs.length) ((Prog.ofO (xs[i.toNat]?)).bind fun row => .ret (.d (.ptr .bor row)))
      | _ => .fail
    | .array n e => (Prog.ofO (tyOf P e)).bind fun te => match v with
      | .mp r s i0 j => .req (0 ≤ i ∧ i < n) (.ret (.mp r s i0 (j + i.toNat * te.size)))
      | .d (.ptr .frz cs) => .req (0 ≤ i ∧ i < n) (.ret (.d (.ptr .frz (cs.drop (i.toNat * te.size)))))
      | .d (.ptr .bor cs) => .req (0 ≤ i ∧ i < n) (.ret (.d (.ptr .bor (cs.drop (i.toNat * te.size)))))
      | _ => .fail
    | _ => .fail
def TyK.field (k : TyK) (f : Nat) : Option (Nat × TypeId) := match k with
  | .struct fs => fs[f]?
  | _ => none
def fieldAddrP (P : Program) (t : TypeId) (f : Nat) (v : V) : Prog V :=
  (Prog.ofO (tyOf P t)).bind fun ty => (Prog.ofO (ty.k.field f)).bind fun o => (Prog.ofO (tyOf P o.2)).bind fun te => .req (0 < te.size) (match v with
    | .mp r s i j => .ret (.mp r s i (j + o.1))
    | .d (.ptr .frz cs) => .ret (.d (.ptr .frz (cs.drop o.1)))
    | .d (.ptr .bor cs) => .ret (.d (.ptr .bor (cs.drop o.1)))
    | _ => .fail)
def fieldP (P : Program) (t : TypeId) (f : Nat) : V → Prog V
  | .agg cs => (Prog.ofO (tyOf P t)).bind fun ty => (Prog.ofO (ty.k.field f)).bind fun o => (Prog.ofO (tyOf P o.2)).bind fun te =>
      if te.k.agg then .ret (.agg ((cs.drop o.1).take te.size)) else (Prog.ofO (cs[o.1]?)).bind fun v => .ret v
  | _ => .fail
def indexP (P : Program) (t : TypeId) (v : V) (i : Int) : Prog V := (Prog.ofO (tyOf P t)).bind fun ty => .req (ty.k = .str) (match v with
  | .d (.p (.string b)) => .req (0 ≤ i) ((Prog.ofO (b.data[i.toNat]?)).bind fun c => .ret (.d (.p (.int .u8 c.toNat))))
  | _ => .fail)
def boundP (n : Nat) (dflt : Nat) : Option V → Prog Nat
  | none => .ret dflt
  | some v => (Prog.ofO v.asInt).bind fun i => .req (0 ≤ i ∧ i ≤ n) (.ret i.toNat)
def sliceP (P : Program) (t : TypeId) (v : V) (lo hi : Option V) : Prog V :=
  match v with
  | .d (.p (.string b)) => (Prog.ofO (tyOf P t)).bind fun ty => .req (ty.k = .str)
      ((boundP b.size b.size hi).bind fun h => (boundP h 0 lo).bind fun l => .ret (.d (.p (.string (b.extract l h)))))
  | .sl r s i n => (Prog.ofO (tyOf P t)).bind fun ty => match ty.k with
    | .slice e => (Prog.ofO (tyOf P e)).bind fun te => .req (s = te.size) ((boundP n n hi).bind fun h => (boundP h 0 lo).bind fun l => .ret (.sl r s (i + l) (h - l)))
    | _ => .fail
  | .d (.row .frz s xs) => (Prog.ofO (tyOf P t)).bind fun ty => match ty.k with
    | .slice e => (Prog.ofO (tyOf P e)).bind fun te => .req (s = te.size) ((boundP xs.length xs.length hi).bind fun h => (boundP h 0 lo).bind fun l => .ret (.d (.row .frz s ((xs.drop l).take (h - l)))))
    | _ => .fail
  | .d (.row .bor s xs) => (Prog.ofO (tyOf P t)).bind fun ty => match ty.k with
    | .slice e => (Prog.ofO (tyOf P e)).bind fun te => .req (s = te.size) ((boundP xs.length xs.length hi).bind fun h => (boundP h 0 lo).bind fun l => .ret (.d (.row .bor s ((xs.drop l).take (h - l)))))
    | _ => .fail
  | _ => .fail
def intBin (op : BinOp) (k : IntKind) (x y : Int) : Option Value := match op with
  | .add => some (.int k (k.wrap (x + y)))
  | .sub => some (.int k (k.wrap (x - y)))
  | .mul => some (.int k (k.wrap (x * y)))
  | .quo => if y = 0 then none else some (.int k (k.wrap (x.tdiv y)))
  | .rem => if y = 0 then none else some (.int k (x.tmod y))
  | .and => some (.int k (k.wrap (BitVec.ofInt k.bits x &&& BitVec.ofInt k.bits y).toNat))
  | .or => some (.int k (k.wrap (BitVec.ofInt k.bits x ||| BitVec.ofInt k.bits y).toNat))
  | .xor => some (.int k (k.wrap (BitVec.ofInt k.bits x ^^^ BitVec.ofInt k.bits y).toNat))
  | .andNot => some (.int k (k.wrap (BitVec.ofInt k.bits x &&& ~~~ BitVec.ofInt k.bits y).toNat))
  | .eql => some (.bool (x == y))
  | .neq => some (.bool (x != y))
  | .lss => some (.bool (x < y))
  | .leq => some (.bool (x ≤ y))
  | .gtr => some (.bool (x > y))
  | .geq => some (.bool (x ≥ y))
  | _ => none
def shiftBin (op : BinOp) (k : IntKind) (x y : Int) : Option Value :=
  if y < 0 then none else match op with
  | .shl => some (.int k (k.wrap (x * 2 ^ (min y.toNat k.bits))))
  | .shr => some (.int k (x.fdiv (2 ^ (min y.toNat k.bits))))
  | _ => none
def strBin (op : BinOp) (x y : ByteArray) : Option Value := match op with
  | .add => if x.size + y.size ≤ 9223372036854775807 then some (.string (x ++ y)) else none
  | .eql => some (.bool (x.toList == y.toList))
  | .neq => some (.bool (!(x.toList == y.toList)))
  | .lss => some (.bool (Op.bytesLess x.toList y.toList))
  | .leq => some (.bool (Op.bytesLess x.toList y.toList || (x.toList == y.toList)))
  | .gtr => some (.bool (!(Op.bytesLess x.toList y.toList || (x.toList == y.toList))))
  | .geq => some (.bool (!Op.bytesLess x.toList y.toList))
  | _ => none
def BinOp.isShift : BinOp → Bool
  | .shl => true
  | .shr => true
  | _ => false
def cellEq : Nat → V → V → Option Bool
  | 0, .d (.p (.int k a)), .d (.p (.int k' b)) => if k = k' then some (a == b) else none
  | 1, .d (.p (.bool a)), .d (.p (.bool b)) => some (a == b)
  | 2, .d (.p (.string a)), .d (.p (.string b)) => some (a == b)
  | _, _, _ => none
def cellsEq : List Nat → List V → List V → Option Bool
  | [], [], [] => some true
  | k :: ks, a :: as, b :: bs => (cellEq k a b).bind fun x => (cellsEq ks as bs).bind fun y => some (x && y)
  | _, _, _ => none
def kindOf (P : Program) (t : TypeId) : Option Nat := match P.underlying t with
  | some (.int _) => some 0
  | some .bool => some 1
  | some .string => some 2
  | _ => none
def flatFields (P : Program) : List Field → Nat → Option (List Nat)
  | [], _ => some []
  | f :: fs, i => if f.name != "_" && f.offset == i then (kindOf P f.type).bind fun k => (flatFields P fs (i + 1)).map (k :: ·) else none
def flatK (P : Program) (t : TypeId) : Option (List Nat) := match P.underlying t with
  | some (.struct fs) => if !P.stoodInHeld t && !P.eqGuardType P.depth t then flatFields P fs.toList 0 else none
  | _ => none
def V.some? : V → Prog Unit
  | .mp .. => .ret ()
  | .d (.ptr ..) => .ret ()
  | .clo .. => .ret ()
  | _ => .fail
def isNil : V → Bool
  | .d (.p (.slice none 0 0)) => true
  | .d (.p (.pointer none)) => true
  | .d (.p .nilIface) => true
  | _ => false
def nilEqP (P : Program) (t : TypeId) (v b : V) : Prog Bool := (Prog.ofO (tyOf P t)).bind fun ty => match ty.k, v, b with
  | .slice _, .sl _ _ _ n, .d (.p (.slice none 0 0)) => .req (0 < n) (.ret false)
  | .slice _, .d (.row _ _ xs), .d (.p (.slice none 0 0)) => .req (xs ≠ []) (.ret false)
  | .slice _, .d (.p (.slice none _ _)), .d (.p (.slice none 0 0)) => .ret true
  | .slice _, .d (.p (.slice (some _) _ _)), .d (.p (.slice none 0 0)) => .ret false
  | .ptr _, .mp _ _ _ _, .d (.p (.pointer none)) => .ret false
  | .ptr _, .d (.ptr _ _), .d (.p (.pointer none)) => .ret false
  | .ptr _, .d (.p (.pointer none)), .d (.p (.pointer none)) => .ret true
  | .iface, .d (.p (.iface _ _)), .d (.p .nilIface) => .ret false
  | _, _, _ => .fail
def binP (P : Program) (op : BinOp) (t : TypeId) (x y : V) : Prog V := match x, y with
  | .d (.p (.int k a)), .d (.p (.int k' b)) => if BinOp.isShift op then (Prog.ofO (shiftBin op k a b)).bind fun v => .ret (.d (.p v))
      else if k = k' then (Prog.ofO (intBin op k a b)).bind fun v => .ret (.d (.p v)) else .fail
  | .d (.p (.string a)), .d (.p (.string b)) => (Prog.ofO (strBin op a b)).bind fun v => .ret (.d (.p v))
  | .d (.p (.bool a)), .d (.p (.bool b)) => match op with
    | .eql => (Prog.ofO (tyOf P t)).bind fun ty => .req (ty.k = .bool) (.ret (.d (.p (.bool (a == b)))))
    | .neq => (Prog.ofO (tyOf P t)).bind fun ty => .req (ty.k = .bool) (.ret (.d (.p (.bool (!(a == b))))))
    | _ => .fail
  | .agg as, .agg bs => (Prog.ofO (flatK P t)).bind fun ks => (Prog.ofO (cellsEq ks as bs)).bind fun b => match op with
    | .eql => .ret (.d (.p (.bool b)))
    | .neq => .ret (.d (.p (.bool (!b))))
    | _ => .fail
  | _, _ => .fail
def unP (op : UnOp) : V → Prog V
  | .d (.p (.int k n)) => match op with
    | .neg => .ret (.d (.p (.int k (k.wrap (0 - n)))))
    | .xor => .ret (.d (.p (.int k (k.wrap (BitVec.ofInt k.bits (if k.signed then -1 else k.max) ^^^ BitVec.ofInt k.bits n).toNat))))
    | _ => .fail
  | .d (.p (.bool b)) => match op with
    | .not => .ret (.d (.p (.bool (!b))))
    | _ => .fail
  | _ => .fail
def byteRows (b : ByteArray) : List (List D) := b.data.toList.map fun c => [D.p (.int .u8 c.toNat)]
def rowsBytes : List (List D) → Option (List UInt8)
  | [] => some []
  | [.p (.int .u8 n)] :: r => (rowsBytes r).map (UInt8.ofNat n.toNat :: ·)
  | _ => none
def D.plainRows (xs : List (List D)) : Prop := ∀ r ∈ xs, ∀ x ∈ r, x.lin = false
def undd : List (List V) → Option (List (List D))
  | [] => some []
  | r :: rs => match unddR r, undd rs with
    | some d, some ds => some (d :: ds)
    | _, _ => none
where
  unddR : List V → Option (List D)
    | [] => some []
    | .d x :: r => (unddR r).map (x :: ·)
    | _ => none
def rowsOfP : V → Prog (List (List D))
  | .d (.row _ _ xs) => .ret xs
  | .d (.p (.slice _ 0 _)) => .ret []
  | .sl r s i n => .get (.r r) fun c => match c with
    | .o s' xs => .req (s = s' ∧ i + n ≤ xs.length) ((Prog.ofO (undd ((xs.drop i).take n))).bind fun ds => .req (D.plainRows ds) (.ret ds))
    | _ => .fail
  | .d (.p (.string b)) => .ret (byteRows b)
  | .arr s xs => resRows xs
  | _ => .fail
def lenStr : V → Option Nat
  | .d (.p (.string b)) => some b.size
  | _ => none
def V.rowSize : V → Option Nat
  | .d (.row _ s _) => some s
  | .sl _ s _ _ => some s
  | .arr s _ => some s
  | .d (.p (.string _)) => some 1
  | _ => none
def sizeFits (v : V) (s : Nat) : Prop := match v.rowSize with
  | some s' => s' = s
  | none => True
def convertP (P : Program) (src dst : TypeId) (v : V) : Prog V :=
  (Prog.ofO (tyOf P src)).bind fun ts => (Prog.ofO (tyOf P dst)).bind fun td => match ts.k, td.k, v with
    | .int _, .int k, .d (.p (.int _ n)) => .ret (.d (.p (.int k (k.wrap n))))
    | .str, .str, .d (.p (.string b)) => .ret (.d (.p (.string b)))
    | .str, .slice e, .d (.p (.string b)) => (Prog.ofO (tyOf P e)).bind fun te => .req (te.k = .int .u8 ∧ te.size = 1) (.ret (.d (.row .own 1 (byteRows b))))
    | .slice e, .str, v => (Prog.ofO (tyOf P e)).bind fun te => .req (te.k = .int .u8 ∧ sizeFits v 1 ∧ lenStr v = none) ((rowsOfP v).bind fun xs => (Prog.ofO (rowsBytes xs)).bind fun l => .ret (.d (.p (.string ⟨l.toArray⟩))))
    | _, _, _ => .fail
def lenOf : V → Option Nat
  | .d (.row _ _ xs) => some xs.length
  | .d (.p (.slice none 0 0)) => some 0
  | .sl _ _ _ n => some n
  | .arr _ xs => some xs.length
  | _ => none
def lenP (P : Program) (t : TypeId) (v : V) : Prog V :=
  (Prog.ofO (tyOf P t)).bind fun ty => match ty.k with
    | .array n _ => .ret (.int n)
    | .slice _ => (Prog.ofO (lenOf v)).bind fun n => .ret (.int n)
    | .str => (Prog.ofO (lenStr v)).bind fun n => .ret (.int n)
    | _ => .fail
def ontoP : V → Prog (List (List D))
  | .d (.p (.slice none 0 0)) => .ret []
  | v => (resV 7 v).bind fun d => match d with
    | .row .own _ xs => .ret xs
    | _ => .fail
def TyK.src : TyK → Bool
  | .slice _ => true
  | .str => true
  | _ => false
def appendP (P : Program) (t t2 : TypeId) (x y : V) : Prog V :=
  (Prog.ofO (tyOf P t)).bind fun ty => match ty.k with
    | .slice e => (Prog.ofO (tyOf P e)).bind fun te => (Prog.ofO (tyOf P t2)).bind fun ty2 =>
      .req (sizeFits x te.size ∧ sizeFits y te.size ∧ te.zero.length = te.size ∧ ty2.k.src = true)
      ((rowsOfP y).bind fun ys => (ontoP x).bind fun xs => .req ((xs.length + ys.length) * te.bytes ≤ 35184372088832 ∧ xs.length + ys.length ≤ 35184372088832)
        (.ret (.d (.row .own te.size (xs ++ ys)))))
    | _ => .fail
def copyP (P : Program) (t t2 : TypeId) (x y : V) : Prog V :=
  (Prog.ofO (tyOf P t)).bind fun ty => match ty.k with
    | .slice e => (Prog.ofO (tyOf P e)).bind fun te => (rowsOfP y).bind fun ys => match x with
      | .sl r s i n => .get (.r r) fun c => match c with
        | .o s' xs => .req (sizeFits y te.size ∧ s = s' ∧ s = te.size ∧ i + n ≤ xs.length ∧ D.plainRows ys)
          (.set (.r r) (some (.o s (setSeg xs i (dd (ys.take n))))) (.ret (.int (min ys.length n))))
        | _ => .fail
      | _ => .fail
    | _ => .fail
def zeroRow (ty : Ty) : List D := ty.zero.map D.p
def makeSliceP (P : Program) (t : TypeId) (l c : Int) : Prog V :=
  (Prog.ofO (tyOf P t)).bind fun ty => match ty.k with
    | .slice e => (Prog.ofO (tyOf P e)).bind fun te => .req (0 ≤ l ∧ l ≤ c ∧ c * te.bytes ≤ 35184372088832 ∧ c ≤ 35184372088832 ∧ te.zero.length = te.size ∧ ∀ v ∈ te.zero, v.oneCell' = true)
        (.ret (.d (.row .own te.size (List.replicate l.toNat (zeroRow te)))))
    | _ => .fail
def allocP (P : Program) (t : TypeId) (nm : Nat) : Prog V :=
  (Prog.ofO (tyOf P t)).bind fun ty => .req (∀ v ∈ ty.zero, v.oneCell' = true)
    (.set (.r nm) (some (.o ty.zero.length [(zeroRow ty).map V.d])) (.ret (.mp nm ty.zero.length 0 0)))
def boxP (nm : Nat) (v : V) : Prog V :=
  (cellsP v).bind fun cs => .set (.r nm) (some (.o cs.length [cs])) (.ret (.mp nm cs.length 0 0))
def fetchAll : List Operand → Prog (List V)
  | [] => .ret []
  | x :: xs => (fetchP x).bind fun v => (fetchAll xs).bind fun vs => .ret (v :: vs)
def putParts (place : Nat → Option (Nat × Nat)) : List (Nat × Operand) → List V → Prog (List V)
  | [], cells => .ret cells
  | (i, x) :: rest, cells => (fetchP x).bind fun v => (cellsP v).bind fun cs => (Prog.ofO (place i)).bind fun p =>
      .req (cs.length = p.2 ∧ p.1 + cs.length ≤ cells.length) (putParts place rest (setSeg cells p.1 cs))
def structPlaces (P : Program) : List (Nat × TypeId) → Option (List (Nat × Nat))
  | [] => some []
  | f :: fs => (tyOf P f.2).bind fun te => (structPlaces P fs).map ((f.1, te.size) :: ·)
def buildP (P : Program) (t : TypeId) (parts : List (Nat × Operand)) : Prog V :=
  (Prog.ofO (tyOf P t)).bind fun ty => .req (∀ v ∈ ty.zero, v.oneCell' = true) (match ty.k with
    | .struct fs => (Prog.ofO (structPlaces P fs)).bind fun pl => (putParts (fun i => pl[i]?) parts ((zeroRow ty).map V.d)).bind fun cs => .ret (.agg cs)
    | .array _ e => (Prog.ofO (tyOf P e)).bind fun te => (putParts (fun i => some (i * te.size, te.size)) parts ((zeroRow ty).map V.d)).bind fun cs => .ret (.agg cs)
    | _ => .fail)
def chunks (s : Nat) : Nat → List V → List (List V)
  | 0, _ => []
  | n + 1, l => l.take s :: chunks s n (l.drop s)
def buildSliceP (P : Program) (t : TypeId) (len : Nat) (parts : List (Nat × Operand)) : Prog V :=
  (Prog.ofO (tyOf P t)).bind fun ty => match ty.k with
    | .slice e => (Prog.ofO (tyOf P e)).bind fun te => .req (len * te.size ≤ 16777216 ∧ te.zero.length = te.size ∧ ∀ v ∈ te.zero, v.oneCell' = true)
        ((putParts (fun i => some (i * te.size, te.size)) parts ((List.replicate len (te.zero.map fun v => V.d (.p v))).flatten)).bind fun cs => .ret (.arr te.size (chunks te.size len cs)))
    | _ => .fail
def fetchO : Option Operand → Prog (Option V)
  | none => .ret none
  | some x => (fetchP x).bind fun v => .ret (some v)
def minmaxP (mx : Bool) : V → V → Prog V
  | .d (.p (.int k n)), .d (.p (.int _ m)) => .ret (.d (.p (.int k (if (if mx then decide (m > n) else decide (m < n)) = true then m else n))))
  | _, _ => .fail
def opP (P : Program) (nm : Nat) : Op → Prog V
  | .move x => fetchN nm x
  | .assign x => fetchN nm x
  | .pick c a b => (fetchP c).bind fun v => match v with
    | .d (.p (.bool true)) => fetchP a
    | .d (.p (.bool false)) => fetchP b
    | _ => .fail
  | .alloc t => allocP P t nm
  | .box _ x => (fetchP x).bind (boxP nm)
  | .build t parts => buildP P t parts.toList
  | .buildSlice t len parts => buildSliceP P t len parts.toList
  | .load t a => (fetchP a).bind (loadP P t nm)
  | .store t a x => (fetchP x).bind fun v => (fetchP a).bind (storeP P t v)
  | .nilCheck x => (fetchN nm x).bind fun v => v.some?.bind fun _ => .ret v
  | .binOp op t x y _ => (fetchP x).bind fun a => (fetchP y).bind fun b =>
      if isNil b then (match op with
        | .eql => (nilEqP P t a b).bind fun r => .ret (.bool r)
        | .neq => (nilEqP P t a b).bind fun r => .ret (.bool (!r))
        | _ => .fail)
      else binP P op t a b
  | .unOp op _ x => (fetchP x).bind (unP op)
  | .convert src dst x => (fetchP x).bind (convertP P src dst)
  | .makeFunc (.func f) first captured => if first.size = 0 then (fetchAll captured.toList).bind fun cs => .ret (.clo f cs) else .fail
  | .makeSlice t l c => (fetchP l).bind fun a => (fetchP c).bind fun b => (Prog.ofO a.asInt).bind fun l => (Prog.ofO b.asInt).bind fun c => makeSliceP P t l c
  | .slice t x lo hi none => (fetchN nm x).bind fun v => (fetchO lo).bind fun l => (fetchO hi).bind fun h => sliceP P t v l h
  | .fieldAddr t x f => (fetchN nm x).bind (fieldAddrP P t f)
  | .field t x f => (fetchP x).bind (fieldP P t f)
  | .indexAddr t x ix => (fetchN nm x).bind fun v => (fetchP ix).bind fun i => (Prog.ofO i.asInt).bind (indexAddrP P t v)
  | .index t x ix => (fetchP x).bind fun v => (fetchP ix).bind fun i => (Prog.ofO i.asInt).bind (indexP P t v)
  | .extract x i => (fetchP x).bind fun v => match v with
    | .tup vs => (Prog.ofO vs[i]?).bind fun v => .ret v
    | _ => .fail
  | .call { callee := .builtin .len, args := args, argTypes := ts } => match args.toList, ts.toList with
    | [x], [t] => (fetchP x).bind (lenP P t)
    | _, _ => .fail
  | .call { callee := .builtin .append, args := args, argTypes := ts } => match args.toList, ts.toList with
    | [x, y], [t, t2] => (fetchP y).bind fun b => (fetchP x).bind fun a => appendP P t t2 a b
    | _, _ => .fail
  | .call { callee := .builtin .min, args := args, argTypes := _ } => match args.toList with
    | [x, y] => (fetchP x).bind fun a => (fetchP y).bind fun b => minmaxP false a b
    | _ => .fail
  | .call { callee := .builtin .max, args := args, argTypes := _ } => match args.toList with
    | [x, y] => (fetchP x).bind fun a => (fetchP y).bind fun b => minmaxP true a b
    | _ => .fail
  | _ => .fail
abbrev Ix := Option Res
structure SatF (Γ : Ctx) (Z B : Zone) (ρ : Names) (F : Ix → List Nat) (N : Nat → Prop) (st : St) (ps : List V) (vals : List Value) (X : List Nat) (tm : Array Value) (w : World) : Prop where
  slot : ∀ s c, st (.s s) = some c → s < tm.size ∧ ∃ v, c = .v v ∧ RelV Z B w ρ v (tm.getD s undef) (F (some (.s s))) ∧ v.inN N
  obj : ∀ r c, st (.r r) = some c → N r ∧ RelO Z B w ρ r c (F (some (.r r))) ∧ c.inN N
  pend : (∃ Fp, F none = Fp ++ X ∧ RelVs Z B w ρ ps vals Fp) ∧ V.inNs N ps
  dead : ∀ x, st x = none → F (some x) = []
  nodup : ∀ x, (F x).Nodup
  disj : ∀ x y, x ≠ y → ∀ b ∈ F x, b ∉ F y
  own : ∀ x, ∀ b ∈ F x, ¬ B b ∧ b < w.heap.size ∧ (Γ.M b ∨ Γ.w0.heap.size ≤ b)
  zB : ∀ b, Z b → B b
  zone : ∀ b, B b → b < w.heap.size
  zoneOld : ∀ b, B b → Γ.B b ∨ Γ.M b ∨ Γ.w0.heap.size ≤ b
  zOld : ∀ b, Z b → Γ.Z b ∨ Γ.M b ∨ Γ.w0.heap.size ≤ b
  zZ : ∀ b, Γ.Z b → Z b
  zBB : ∀ b, Γ.B b → B b
  frame : ∀ b, b < Γ.w0.heap.size → ¬ Γ.M b → w.heap[b]? = Γ.w0.heap[b]?
  grow : Grow Γ.w0 w
  rho : ∀ i, i < Γ.k → ρ i = Γ.ρ i
  kN : ∀ i, i < Γ.k → N i
def SatP (Γ : Ctx) (N : Nat → Prop) (st : St) (ps : List V) (vals : List Value) (tm : Array Value) (w : World) : Prop := ∃ Z B ρ F, SatF Γ Z B ρ F N st ps vals [] tm w
abbrev Sat (Γ : Ctx) (N : Nat → Prop) (st : St) (tm : Array Value) (w : World) : Prop := SatP Γ N st [] [] tm w
theorem SatF.update {Γ : Ctx} {Z B : Zone} {ρ : Names} {F : Ix → List Nat} {N : Nat → Prop} {st : St} {ps : List V} {vals : List Value} {X : List Nat} {tm : Array Value} {w : World}
    (h : SatF Γ Z B ρ F N st ps vals X tm w) (D : Ix → Prop)
    {Z' B' : Zone} {ρ' : Names} {F' : Ix → List Nat} {N' : Nat → Prop} {st' : St} {ps' : List V} {vals' : List Value} {X' : List Nat} {tm' : Array Value} {w' : World}
    (hg : Grow w w') (hheap : ∀ b, b < w.heap.size → (∀ x, D x → b ∉ F x) → w'.heap[b]? = w.heap[b]?)
    (hst : ∀ x, ¬ D (some x) → st' x = st x) (hF : ∀ x, ¬ D x → F' x = F x)
    (htm : ∀ s, ¬ D (some (.s s)) → s < tm.size → s < tm'.size ∧ tm'.getD s undef = tm.getD s undef)
    (hp : ¬ D none → ps' = ps ∧ vals' = vals ∧ X' = X)
    (hN : ∀ r, N r → N' r) (hρ : ∀ r, N r → ρ' r = ρ r)
    (hZ : ∀ b, Z b → Z' b) (hB : ∀ b, B b → B' b) (hzB : ∀ b, Z' b → B' b)
    (hB' : ∀ b, B' b → B b ∨ (b < w'.heap.size ∧ ((∃ x, D x ∧ b ∈ F x) ∨ w.heap.size ≤ b)))
    (hZ' : ∀ b, Z' b → Z b ∨ (∃ x, D x ∧ b ∈ F x) ∨ w.heap.size ≤ b)
    (dslot : ∀ s c, D (some (.s s)) → st' (.s s) = some c → s < tm'.size ∧ ∃ v, c = .v v ∧ RelV Z' B' w' ρ' v (tm'.getD s undef) (F' (some (.s s))) ∧ v.inN N')
    (dobj : ∀ r c, D (some (.r r)) → st' (.r r) = some c → N' r ∧ RelO Z' B' w' ρ' r c (F' (some (.r r))) ∧ c.inN N')
    (dpend : D none → (∃ Fp, F' none = Fp ++ X' ∧ RelVs Z' B' w' ρ' ps' vals' Fp) ∧ V.inNs N' ps')
    (ddead : ∀ x, D (some x) → st' x = none → F' (some x) = [])
    (dnodup : ∀ x, D x → (F' x).Nodup)
    (ddisj : ∀ x y, D x → D y → x ≠ y → ∀ b ∈ F' x, b ∉ F' y)
    (dfrom : ∀ x, D x → ∀ b ∈ F' x, (∃ y, D y ∧ b ∈ F y) ∨ w.heap.size ≤ b)
    (dlt : ∀ x, D x → ∀ b ∈ F' x, b < w'.heap.size ∧ ¬ B' b) :
    SatF Γ Z' B' ρ' F' N' st' ps' vals' X' tm' w' := by
  have hkeep : ∀ x, ¬ D x → ∀ b ∈ F x, w'.heap[b]? = w.heap[b]? := by
    intro x hx b hb
    exact hheap b (h.own x b hb).2.1 (fun y hy hby => h.disj x y (fun e => hx (e ▸ hy)) b hb hby)
  have hzone : ∀ b, B b → w'.heap[b]? = w.heap[b]? := by
    intro b hb
    exact hheap b (h.zone b hb) (fun y _ hby => (h.own y b hby).1 hb)
  have hwF : ∀ x, ¬ D x → ∀ b ∈ F x, ¬ B' b := by
    intro x hx b hb hb'
    rcases hB' b hb' with h1 | ⟨_, ⟨y, hy, hby⟩ | h1⟩
    · exact (h.own x b hb).1 h1
    · exact h.disj x y (fun e => hx (e ▸ hy)) b hb hby
    · have := (h.own x b hb).2.1; omega
  have hM : ∀ b, ((∃ x, D x ∧ b ∈ F x) ∨ w.heap.size ≤ b) → Γ.M b ∨ Γ.w0.heap.size ≤ b := by
    rintro b (⟨x, _, hb⟩ | hb)
    · exact (h.own x b hb).2.2
    · exact .inr (Nat.le_trans h.grow.size hb)
  refine ⟨?_, ?_, ?_, ?_, ?_, ?_, ?_, hzB, ?_, ?_, ?_, ?_, ?_, ?_, h.grow.trans hg, ?_, ?_⟩
  · intro s c hs
    by_cases hd : D (some (.s s))
    · exact dslot s c hd hs
    · rw [hst _ hd] at hs
      obtain ⟨h1, v, rfl, h2, h3⟩ := h.slot s c hs
      obtain ⟨h4, h5⟩ := htm s hd h1
      refine ⟨h4, v, rfl, ?_, V.inN_mono hN v h3⟩
      rw [h5, hF _ hd]
      exact h2.mono ⟨h3, trivial⟩ hρ (hkeep _ hd) (fun b hb => hzone b (h.zB b hb)) hzone hZ hB hg.blk
  · intro r c hs
    by_cases hd : D (some (.r r))
    · exact dobj r c hd hs
    · rw [hst _ hd] at hs
      obtain ⟨h1, h2, h3⟩ := h.obj r c hs
      refine ⟨hN r h1, ?_, C.inN_mono hN c h3⟩
      rw [hF _ hd]
      have hk := hkeep _ hd
      generalize F (some (.r r)) = G at h2 hk
      cases h2 with
      | none h4 => exact .none ((hρ r h1).trans h4)
      | some h4 h5 h6 h7 h8 h9 =>
        exact .some ((hρ r h1).trans h4) (h5.mono (inNss_flatten h3) hρ (fun b hb => hk b (by simp [hb])) (fun b hb => hzone b (h.zB b hb)) hzone hZ hB hg.blk) h6
          (rangeAt_same (hk _ (by simp)) h7) (hg.blk _ _ h8) h9
  · by_cases hd : D none
    · exact dpend hd
    · obtain ⟨rfl, rfl, rfl⟩ := hp hd
      rw [hF _ hd]
      obtain ⟨⟨Fp, h1, h2⟩, h3⟩ := h.pend
      exact ⟨⟨Fp, h1, h2.mono h3 hρ (fun b hb => hkeep _ hd b (by rw [h1]; simp [hb])) (fun b hb => hzone b (h.zB b hb)) hzone hZ hB hg.blk⟩, V.inNs_mono hN _ h3⟩
  · intro x hx
    by_cases hd : D (some x)
    · exact ddead x hd hx
    · rw [hF _ hd]; rw [hst _ hd] at hx; exact h.dead x hx
  · intro x
    by_cases hd : D x
    · exact dnodup x hd
    · rw [hF _ hd]; exact h.nodup x
  · intro x y hne b hb hby
    by_cases hx : D x <;> by_cases hy : D y
    · exact ddisj x y hx hy hne b hb hby
    · rw [hF _ hy] at hby
      rcases dfrom x hx b hb with ⟨z, hz, hbz⟩ | h1
      · exact h.disj z y (fun e => hy (e ▸ hz)) b hbz hby
      · have := (h.own y b hby).2.1; omega
    · rw [hF _ hx] at hb
      rcases dfrom y hy b hby with ⟨z, hz, hbz⟩ | h1
      · exact h.disj z x (fun e => hx (e ▸ hz)) b hbz hb
      · have := (h.own x b hb).2.1; omega
    · rw [hF _ hx] at hb
      rw [hF _ hy] at hby
      exact h.disj x y hne b hb hby
  · intro x b hb
    by_cases hd : D x
    · obtain ⟨h1, h2⟩ := dlt x hd b hb
      exact ⟨h2, h1, hM b (dfrom x hd b hb)⟩
    · rw [hF _ hd] at hb
      obtain ⟨h1, h2, h3⟩ := h.own x b hb
      exact ⟨hwF x hd b hb, Nat.lt_of_lt_of_le h2 hg.size, h3⟩
  · intro b hb
    rcases hB' b hb with h1 | ⟨h1, _⟩
    · exact Nat.lt_of_lt_of_le (h.zone b h1) hg.size
    · exact h1
  · intro b hb
    rcases hB' b hb with h1 | ⟨_, h1⟩
    · exact h.zoneOld b h1
    · exact .inr (hM b h1)
  · intro b hb
    rcases hZ' b hb with h1 | h1
    · exact h.zOld b h1
    · exact .inr (hM b h1)
  · exact fun b hb => hZ b (h.zZ b hb)
  · exact fun b hb => hB b (h.zBB b hb)
  · intro b hb hm
    rw [← h.frame b hb hm]
    refine hheap b (Nat.lt_of_lt_of_le hb h.grow.size) (fun x _ hbx => ?_)
    rcases (h.own x b hbx).2.2 with h1 | h1
    · exact hm h1
    · omega
  · intro i hi
    rw [hρ i (h.kN i hi)]
    exact h.rho i hi
  · exact fun i hi => hN i (h.kN i hi)
theorem nodup_flatMap {F : Ix → List Nat} : ∀ {xs : List Ix}, xs.Nodup → (∀ x ∈ xs, (F x).Nodup) → (∀ x ∈ xs, ∀ y ∈ xs, x ≠ y → ∀ b ∈ F x, b ∉ F y) → (xs.flatMap F).Nodup
  | [], _, _, _ => by simp
  | x :: xs, h1, h2, h3 => by
    rw [List.flatMap_cons, List.nodup_append]
    rw [List.nodup_cons] at h1
    refine ⟨h2 x (by simp), nodup_flatMap h1.2 (fun y hy => h2 y (by simp [hy])) (fun y hy z hz => h3 y (by simp [hy]) z (by simp [hz])), ?_⟩
    intro a ha b hb e
    subst e
    obtain ⟨y, hy, hb⟩ := List.mem_flatMap.1 hb
    exact h3 x (by simp) y (by simp [hy]) (fun e => h1.1 (e ▸ hy)) a ha hb
theorem nodup_parts {F : Ix → List Nat} : ∀ {xs : List Ix}, (xs.flatMap F).Nodup → (∀ x ∈ xs, (F x).Nodup) ∧ (xs.Nodup → ∀ x ∈ xs, ∀ y ∈ xs, x ≠ y → ∀ b ∈ F x, b ∉ F y)
  | [], _ => ⟨by simp, by simp⟩
  | x :: xs, h => by
    rw [List.flatMap_cons, List.nodup_append] at h
    obtain ⟨h1, h2, h3⟩ := h
    obtain ⟨h4, h5⟩ := nodup_parts h2
    refine ⟨fun y hy => ?_, fun hn y hy z hz hne b hb hbz => ?_⟩
    · cases hy with
      | head => exact h1
      | tail _ hy => exact h4 y hy
    · rw [List.nodup_cons] at hn
      cases hy with
      | head =>
        cases hz with
        | head => exact hne rfl
        | tail _ hz => exact h3 b hb b (List.mem_flatMap.2 ⟨z, hz, hbz⟩) rfl
      | tail _ hy =>
        cases hz with
        | head => exact h3 b hbz b (List.mem_flatMap.2 ⟨y, hy, hb⟩) rfl
        | tail _ hz => exact h5 hn.2 y hy z hz hne b hb hbz
theorem SatF.nd {Γ : Ctx} {Z B : Zone} {ρ : Names} {F : Ix → List Nat} {N : Nat → Prop} {st : St} {ps : List V} {vals : List Value} {X : List Nat} {tm : Array Value} {w : World}
    (h : SatF Γ Z B ρ F N st ps vals X tm w) {xs : List Ix} (hx : xs.Nodup) : (xs.flatMap F).Nodup :=
  nodup_flatMap hx (fun x _ => h.nodup x) (fun x _ y _ => h.disj x y)
theorem SatF.step {Γ : Ctx} {Z B : Zone} {ρ : Names} {F : Ix → List Nat} {N : Nat → Prop} {st : St} {ps : List V} {vals : List Value} {X : List Nat} {tm : Array Value} {w : World}
    (h : SatF Γ Z B ρ F N st ps vals X tm w) (xs : List Ix) (hx : xs.Nodup)
    {Z' B' : Zone} {ρ' : Names} {F' : Ix → List Nat} {N' : Nat → Prop} {st' : St} {ps' : List V} {vals' : List Value} {X' : List Nat} {tm' : Array Value} {w' : World}
    (hg : Grow w w') (hheap : ∀ b, b < w.heap.size → b ∉ xs.flatMap F → w'.heap[b]? = w.heap[b]?)
    (hst : ∀ x, some x ∉ xs → st' x = st x) (hF : ∀ x, x ∉ xs → F' x = F x)
    (htm : ∀ s, some (.s s) ∉ xs → s < tm.size → s < tm'.size ∧ tm'.getD s undef = tm.getD s undef)
    (hp : none ∉ xs → ps' = ps ∧ vals' = vals ∧ X' = X)
    (hN : ∀ r, N r → N' r) (hρ : ∀ r, N r → ρ' r = ρ r)
    (hZ : ∀ b, Z b → Z' b) (hB : ∀ b, B b → B' b) (hzB : ∀ b, Z' b → B' b)
    (hB' : ∀ b, B' b → B b ∨ (b < w'.heap.size ∧ (b ∈ xs.flatMap F ∨ w.heap.size ≤ b)))
    (hZ' : ∀ b, Z' b → Z b ∨ b ∈ xs.flatMap F ∨ w.heap.size ≤ b)
    (dslot : ∀ s c, some (.s s) ∈ xs → st' (.s s) = some c → s < tm'.size ∧ ∃ v, c = .v v ∧ RelV Z' B' w' ρ' v (tm'.getD s undef) (F' (some (.s s))) ∧ v.inN N')
    (dobj : ∀ r c, some (.r r) ∈ xs → st' (.r r) = some c → N' r ∧ RelO Z' B' w' ρ' r c (F' (some (.r r))) ∧ c.inN N')
    (dpend : none ∈ xs → (∃ Fp, F' none = Fp ++ X' ∧ RelVs Z' B' w' ρ' ps' vals' Fp) ∧ V.inNs N' ps')
    (ddead : ∀ x, some x ∈ xs → st' x = none → F' (some x) = [])
    (dnd : (xs.flatMap F').Nodup)
    (dfrom : ∀ b ∈ xs.flatMap F', (b ∈ xs.flatMap F ∨ w.heap.size ≤ b) ∧ b < w'.heap.size ∧ ¬ B' b) :
    SatF Γ Z' B' ρ' F' N' st' ps' vals' X' tm' w' := by
  obtain ⟨p1, p2⟩ := nodup_parts dnd
  have e : ∀ b, (∃ x, x ∈ xs ∧ b ∈ F x) ↔ b ∈ xs.flatMap F := fun b => List.mem_flatMap.symm
  refine h.update (fun x => x ∈ xs) hg (fun b hb hn => hheap b hb (fun hm => ?_)) hst hF htm hp hN hρ hZ hB hzB ?_ ?_ dslot dobj dpend ddead p1 (fun x y hx' hy' => p2 hx x hx' y hy') ?_ ?_
  · obtain ⟨x, h1, h2⟩ := List.mem_flatMap.1 hm
    exact hn x h1 h2
  · intro b hb
    rw [e]
    exact hB' b hb
  · intro b hb
    rw [e]
    exact hZ' b hb
  · intro x hx' b hb
    rw [e]
    exact (dfrom b (List.mem_flatMap.2 ⟨x, hx', hb⟩)).1
  · intro x hx' b hb
    exact (dfrom b (List.mem_flatMap.2 ⟨x, hx', hb⟩)).2
theorem SatF.ghost {Γ : Ctx} {Z B : Zone} {ρ : Names} {F : Ix → List Nat} {N : Nat → Prop} {st : St} {ps : List V} {vals : List Value} {X : List Nat} {tm : Array Value} {w : World}
    (h : SatF Γ Z B ρ F N st ps vals X tm w) (xs : List Ix) (hx : xs.Nodup)
    {ρ' : Names} {F' : Ix → List Nat} {N' : Nat → Prop} {st' : St} {ps' : List V} {vals' : List Value} {X' : List Nat}
    (hst : ∀ x, some x ∉ xs → st' x = st x) (hF : ∀ x, x ∉ xs → F' x = F x)
    (hp : none ∉ xs → ps' = ps ∧ vals' = vals ∧ X' = X)
    (hN : ∀ r, N r → N' r) (hρ : ∀ r, N r → ρ' r = ρ r)
    (dslot : ∀ s c, some (.s s) ∈ xs → st' (.s s) = some c → s < tm.size ∧ ∃ v, c = .v v ∧ RelV Z B w ρ' v (tm.getD s undef) (F' (some (.s s))) ∧ v.inN N')
    (dobj : ∀ r c, some (.r r) ∈ xs → st' (.r r) = some c → N' r ∧ RelO Z B w ρ' r c (F' (some (.r r))) ∧ c.inN N')
    (dpend : none ∈ xs → (∃ Fp, F' none = Fp ++ X' ∧ RelVs Z B w ρ' ps' vals' Fp) ∧ V.inNs N' ps')
    (ddead : ∀ x, some x ∈ xs → st' x = none → F' (some x) = [])
    (dnd : (xs.flatMap F').Nodup) (dsub : ∀ b ∈ xs.flatMap F', b ∈ xs.flatMap F) :
    SatF Γ Z B ρ' F' N' st' ps' vals' X' tm w :=
  h.step xs hx (Grow.refl w) (fun _ _ _ => rfl) hst hF (fun _ _ hs => ⟨hs, rfl⟩) hp hN hρ (fun _ x => x) (fun _ x => x) h.zB (fun _ x => .inl x) (fun _ x => .inl x)
    dslot dobj dpend ddead dnd (fun b hb => ⟨.inl (dsub b hb), by
      obtain ⟨x, _, hbx⟩ := List.mem_flatMap.1 (dsub b hb)
      exact ⟨(h.own x b hbx).2.1, (h.own x b hbx).1⟩⟩)
theorem lin_D {Z B : Zone} {w : World} {ds : List D} {vs : List Value} {F : List Nat} (h : RelDs Z B w ds vs F) (hl : ∀ x ∈ ds, x.lin = false) : F = [] := by
  induction h with
  | nil => rfl
  | p _ _ ih => exact ih fun x hx => hl x (by simp [hx])
  | none _ ih => exact ih fun x hx => hl x (by simp [hx])
  | @row m s b o c xs us F ds vs G _ _ _ _ h5 _ _ _ _ ih =>
    have e := hl (.row m s xs) (by simp)
    have hm : m ≠ .own := by rintro rfl; simp [D.lin] at e
    have hf : m.foot b = [] := by cases m <;> simp_all [Md.foot]
    rw [hf, h5 hm, ih fun x hx => hl x (by simp [hx])]; rfl
  | @ptr m b o cs us F ds vs G _ _ _ _ h5 _ _ ih =>
    have e := hl (.ptr m cs) (by simp)
    have hm : m ≠ .own := by rintro rfl; simp [D.lin] at e
    have hf : m.foot b = [] := by cases m <;> simp_all [Md.foot]
    rw [hf, h5 hm, ih fun x hx => hl x (by simp [hx])]; rfl
theorem lin_V {Z B : Zone} {w : World} {ρ : Names} {ds : List V} {vs : List Value} {F : List Nat} (h : RelVs Z B w ρ ds vs F) (hl : V.linL ds = false) : F = [] := by
  induction h with
  | nil => rfl
  | d h1 _ ih =>
    simp only [V.linL, V.lin, Bool.or_eq_false_iff] at hl
    rw [lin_D h1 (by simp [hl.1]), ih hl.2]; rfl
  | sl _ _ ih => simp only [V.linL, V.lin, Bool.or_eq_false_iff] at hl; exact ih hl.2
  | mp _ _ ih => simp only [V.linL, V.lin, Bool.or_eq_false_iff] at hl; exact ih hl.2
  | agg _ _ _ ih1 ih2 => simp only [V.linL, V.lin, Bool.or_eq_false_iff] at hl; rw [ih1 hl.1, ih2 hl.2]; rfl
  | clo _ _ ih1 ih2 => simp only [V.linL, V.lin, Bool.or_eq_false_iff] at hl; rw [ih1 hl.1, ih2 hl.2]; rfl
  | tup _ _ ih1 ih2 => simp only [V.linL, V.lin, Bool.or_eq_false_iff] at hl; rw [ih1 hl.1, ih2 hl.2]; rfl
  | arr => simp [V.linL, V.lin] at hl
section
variable {Γ : Ctx} {Z B : Zone} {ρ : Names} {F : Ix → List Nat} {N : Nat → Prop} {st st' : St} {ps : List V} {vals : List Value} {X : List Nat} {tm : Array Value} {w : World}
theorem SatF.push (h : SatF Γ Z B ρ F N st ps vals X tm w) {v : V} {val : Value} (hv : RelV Z B w ρ v val []) (hn : v.inN N) :
    SatF Γ Z B ρ F N st (v :: ps) (val :: vals) X tm w := by
  obtain ⟨⟨Fp, h1, h2⟩, h3⟩ := h.pend
  refine h.ghost [none] (by simp) (fun _ _ => rfl) (fun _ _ => rfl) (by simp) (fun _ x => x) (fun _ _ => rfl) (by simp) (by simp) ?_ (by simp) (h.nd (by simp)) (fun _ hb => hb)
  exact fun _ => ⟨⟨Fp, h1, by simpa using RelVs.append hv h2⟩, hn, h3⟩
theorem fetch_sound {a : Act} {x : Operand} {v : V} {R W : List Res} (hr : Run (fetchP x) st v st' R W) (ha : a.tmps = tm) (h : SatF Γ Z B ρ F N st ps vals X tm w) :
    ∃ F', SatF Γ Z B ρ F' N st' (v :: ps) (a.eval x :: vals) X tm w := by
  subst ha
  cases x with
  | const c =>
    simp only [fetchP] at hr
    cases hr with
    | req h1 h2 =>
      cases h2
      exact ⟨F, h.push (.d (.p h1 .nil) .nil) trivial⟩
  | global g => simp only [fetchP] at hr; cases hr
  | func f =>
    simp only [fetchP] at hr
    cases hr
    exact ⟨F, h.push (.clo .nil .nil) trivial⟩
  | tmp t =>
    simp only [fetchP] at hr
    cases hr with
    | @get _ _ _ _ c _ _ _ h1 h2 =>
      obtain ⟨ht, y, rfl, h3, h4⟩ := h.slot t _ h1
      simp only at h2
      split at h2
      · rename_i hl
        cases h2 with
        | set h2 =>
          cases h2
          obtain ⟨⟨Fp, p1, p2⟩, p3⟩ := h.pend
          have hnd := h.nd (xs := [some (.s t), none]) (by simp)
          refine ⟨fun x => if x = none then F (some (.s t)) ++ F none else if x = some (.s t) then [] else F x, ?_⟩
          refine h.ghost [some (.s t), none] (by simp) ?_ ?_ (by simp) (fun _ x => x) (fun _ _ => rfl) ?_ ?_ ?_ ?_ ?_ ?_
          · intro x hx; simp only [List.mem_cons, Option.some.injEq, reduceCtorEq, List.not_mem_nil, or_false] at hx; simp [upd, hx]
          · intro x hx; simp only [List.mem_cons, List.not_mem_nil, or_false, not_or] at hx; simp [hx.1, hx.2]
          · intro s c hs hc
            simp only [List.mem_cons, Option.some.injEq, Res.s.injEq, reduceCtorEq, List.not_mem_nil, or_false] at hs
            subst hs
            simp [upd] at hc
          · intro r c hs hc; simp at hs
          · intro _
            refine ⟨⟨F (some (.s t)) ++ Fp, by simp [p1], ?_⟩, h4, p3⟩
            exact RelVs.append h3 p2
          · intro x hx _
            simp only [List.mem_cons, Option.some.injEq, reduceCtorEq, List.not_mem_nil, or_false] at hx
            simp [hx]
          · simpa using hnd
          · intro b hb; simpa using hb
      · rename_i hl
        cases h2
        refine ⟨F, h.push ?_ h4⟩
        have e : F (some (.s t)) = [] := lin_V h3 (by simp [V.linL, hl])
        rw [e] at h3
        exact h3
theorem dd_flatten (xs : List (List D)) : (dd xs).flatten = xs.flatten.map V.d := by
  induction xs with
  | nil => rfl
  | cons x xs ih =>
    have : dd (x :: xs) = x.map V.d :: dd xs := rfl
    rw [this, List.flatten_cons, ih]; simp
theorem dd_length (xs : List (List D)) : (dd xs).length = xs.length := by simp [dd]
theorem inNs_map_d {N : Nat → Prop} : ∀ ds : List D, V.inNs N (ds.map V.d)
  | [] => trivial
  | d :: ds => ⟨trivial, inNs_map_d ds⟩
theorem inNss_dd {N : Nat → Prop} : ∀ xs : List (List D), V.inNss N (dd xs)
  | [] => trivial
  | x :: xs => ⟨inNs_map_d x, inNss_dd xs⟩
theorem name_sound {nm : Nat} {v v' : V} {R W : List Res} {pre : List V} (hr : Run (nameP nm v) st v' st' R W) (hnm : ¬ N nm)
    (h : SatF Γ Z B ρ F N st (pre ++ v :: ps) vals X tm w) :
    ∃ ρ' F', (∀ r, r ≠ nm → ρ' r = ρ r) ∧ SatF Γ Z B ρ' F' (fun r => N r ∨ r = nm) st' (pre ++ v' :: ps) vals X tm w := by
  have hst : st (.r nm) = none := by
    cases hs : st (.r nm) with
    | none => rfl
    | some c => exact absurd (h.obj nm c hs).1 hnm
  have hidle : v' = v → st' = st → ∃ ρ' F', (∀ r, r ≠ nm → ρ' r = ρ r) ∧ SatF Γ Z B ρ' F' (fun r => N r ∨ r = nm) st' (pre ++ v' :: ps) vals X tm w := by
    rintro rfl rfl
    refine ⟨ρ, F, fun _ _ => rfl, ?_⟩
    exact h.ghost [] (by simp) (fun _ _ => rfl) (fun _ _ => rfl) (fun _ => ⟨rfl, rfl, rfl⟩) (fun _ x => .inl x) (fun _ _ => rfl) (by simp) (by simp) (by simp) (by simp) (by simp) (by simp)
  -- the named arms
  have key : ∀ (s : Nat) (xs : List (List V)) (a : Option Addr) (nv : V) (G : List Nat) (Fa Fc : List Nat) (va vc : List Value) (val : Value),
      v' = nv → st' = upd st (.r nm) (some (.o s xs)) → vals = va ++ val :: vc → F none = (Fa ++ (G ++ Fc)) ++ X →
      RelVs Z B w ρ pre va Fa → RelVs Z B w ρ ps vc Fc → V.inNs N pre → V.inNs N ps →
      (∀ ρ' : Names, ρ' nm = a → (∀ r, r ≠ nm → ρ' r = ρ r) → RelV Z B w ρ' nv val [] ∧ RelO Z B w ρ' nm (.o s xs) G) →
      nv.inN (fun r => N r ∨ r = nm) → V.inNss (fun r => N r ∨ r = nm) xs →
      ∃ ρ' F', (∀ r, r ≠ nm → ρ' r = ρ r) ∧ SatF Γ Z B ρ' F' (fun r => N r ∨ r = nm) st' (pre ++ v' :: ps) vals X tm w := by
    intro s xs a nv G Fa Fc va vc val e1 e2 e3 e4 k1 k2 k3 k4 k5 k6 k7
    subst e1; subst e2; subst e3
    let ρ' : Names := fun r => if r = nm then a else ρ r
    have hρ : ∀ r, N r → ρ' r = ρ r := fun r hNr => by
      have e : r ≠ nm := by rintro rfl; exact hnm hNr
      simp [ρ', e]
    obtain ⟨m1, m2⟩ := k5 ρ' (by simp [ρ']) (fun r hr => by simp [ρ', hr])
    have hnd := h.nd (xs := [none, some (.r nm)]) (by simp)
    have hd : F (some (.r nm)) = [] := h.dead _ hst
    refine ⟨ρ', fun x => if x = none then (Fa ++ Fc) ++ X else if x = some (.r nm) then G else F x, fun r hr => by simp [ρ', hr], ?_⟩
    refine h.ghost [none, some (.r nm)] (by simp) ?_ ?_ (by simp) (fun _ x => .inl x) hρ ?_ ?_ ?_ ?_ ?_ ?_
    · intro x hx
      simp only [List.mem_cons, reduceCtorEq, Option.some.injEq, List.not_mem_nil, or_false, false_or] at hx
      simp [upd, hx]
    · intro x hx
      simp only [List.mem_cons, List.not_mem_nil, or_false, not_or] at hx
      simp [hx.1, hx.2]
    · intro s c hs; simp at hs
    · intro r c hs hc
      simp only [List.mem_cons, reduceCtorEq, Option.some.injEq, Res.r.injEq, List.not_mem_nil, or_false, false_or] at hs
      subst hs
      simp [upd] at hc
      subst hc
      exact ⟨.inr rfl, by simpa using m2, k7⟩
    · intro _
      refine ⟨⟨Fa ++ Fc, by simp, ?_⟩, ?_⟩
      · have t1 := k1.mono k3 hρ (fun _ _ => rfl) (fun _ _ => rfl) (fun _ _ => rfl) (fun _ x => x) (fun _ x => x) (fun _ _ x => x)
        have t2 := k2.mono k4 hρ (fun _ _ => rfl) (fun _ _ => rfl) (fun _ _ => rfl) (fun _ x => x) (fun _ x => x) (fun _ _ x => x)
        have := RelVs.append t1 (RelVs.append m1 t2)
        simpa using this
      · rw [inNs_append]
        exact ⟨V.inNs_mono (fun _ x => .inl x) _ k3, k6, V.inNs_mono (fun _ x => .inl x) _ k4⟩
    · intro x hx hn
      simp only [List.mem_cons, reduceCtorEq, Option.some.injEq, List.not_mem_nil, or_false, false_or] at hx
      subst hx
      simp [upd] at hn
    · simp only [List.flatMap_cons, List.flatMap_nil, List.append_nil, if_true, reduceCtorEq, if_false, hd, e4] at hnd ⊢
      have p : ((Fa ++ (G ++ Fc)) ++ X).Perm (((Fa ++ Fc) ++ X) ++ G) := by
        simp only [List.append_assoc]
        refine List.Perm.append_left Fa ?_
        refine (List.perm_append_comm).trans ?_
        simp [List.append_assoc]
      exact p.nodup_iff.1 hnd
    · intro b hb
      simp only [List.flatMap_cons, List.flatMap_nil, List.append_nil, if_true, reduceCtorEq, if_false, hd, e4, List.mem_append] at hb ⊢
      grind
  obtain ⟨⟨Fp, p1, p2⟩, p3⟩ := h.pend
  obtain ⟨va, vb, Fa, Fb, rfl, rfl, q1, q2⟩ := p2.split
  obtain ⟨val, vc, Fv, Fc, rfl, rfl, q3, q4⟩ := q2.cons_split
  rw [inNs_append] at p3
  obtain ⟨n1, n2, n3⟩ := p3
  unfold nameP at hr
  split at hr
  · -- a row
    rename_i s xs
    cases hr with
    | set hr =>
      cases hr
      cases q3 with
      | d q5 q6 =>
        cases q6
        cases q5 with
        | @none _ _ A _ _ _ q7 =>
          cases q7
          refine key s [] none (.sl nm s 0 0) [] Fa Fc va vc _ rfl rfl rfl (by simpa using p1) q1 q4 n1 n3 (fun ρ' e1 e2 => ⟨.sl (.inl ⟨rfl, rfl⟩) .nil, .none e1⟩) (.inr rfl) trivial
        | @row _ _ b o c _ us G _ _ _ t1 t2 t3 t4 t5 t6 t7 t8 =>
          cases t8
          have t4 := t4 rfl
          refine key s (dd xs) (some ⟨b, o, none⟩) (.sl nm s 0 xs.length) (b :: G) Fa Fc va vc _ rfl rfl rfl (by simpa [Md.foot] using p1) q1 q4 n1 n3 (fun ρ' e1 e2 => ⟨?_, ?_⟩) (.inr rfl) (inNss_dd xs)
          · refine .sl (.inr ⟨b, o, e1, by simp, ?_, t7⟩) .nil
            exact t4.le (by simp)
          · refine .some e1 ?_ t1.one t2 (t4.le ?_) ?_
            · rw [dd_flatten]; exact RelVs.ofD t1
            · rw [dd_length]; exact Nat.add_le_add_left (Nat.mul_le_mul_right s t7) o
            · intro x hx
              simp only [dd, List.mem_map] at hx
              obtain ⟨y, hy, rfl⟩ := hx
              simpa using t6 y hy
  · -- a pointer
    rename_i cs
    cases hr with
    | set hr =>
      cases hr
      cases q3 with
      | d q5 q6 =>
        cases q6
        cases q5 with
        | @ptr _ b o _ us G _ _ _ t1 t2 t3 t4 t5 t8 =>
          cases t8
          have t4 := t4 rfl
          refine key cs.length [cs.map V.d] (some ⟨b, o, none⟩) (.mp nm cs.length 0 0) (b :: G) Fa Fc va vc _ rfl rfl rfl (by simpa [Md.foot] using p1) q1 q4 n1 n3 (fun ρ' e1 e2 => ⟨?_, ?_⟩) (.inr rfl) ⟨inNs_map_d cs, trivial⟩
          · have := RelVs.mp (Z := Z) (B := B) (w := w) (ρ := ρ') (r := nm) (s := cs.length) (i := 0) (j := 0) e1 .nil
            simpa using this
          · refine .some e1 ?_ t1.one t2 (t4.le ?_) ?_
            · simpa using RelVs.ofD t1
            · simp
            · simp
  · -- a fresh array
    rename_i s xs
    cases hr with
    | set hr =>
      cases hr
      cases q3 with
      | @arr _ b _ us G _ _ _ t1 t2 t3 t4 t5 t6 =>
        cases t6
        refine key s xs (some ⟨b, 0, none⟩) (.sl nm s 0 xs.length) (b :: G) Fa Fc va vc _ rfl rfl rfl (by simpa using p1) q1 q4 n1 n3 (fun ρ' e1 e2 => ⟨?_, ?_⟩) (.inr rfl) (V.inNss_mono (fun _ x => .inl x) _ n2)
        · refine .sl (.inr ⟨b, 0, e1, by simp, t4.le (by simp), Nat.le_refl _⟩) .nil
        · refine .some e1 ?_ t2 t3 (t4.le (by simp)) t5
          exact t1.mono (inNss_flatten n2) (fun r hNr => e2 r (by rintro rfl; exact hnm hNr)) (fun _ _ => rfl) (fun _ _ => rfl) (fun _ _ => rfl) (fun _ x => x) (fun _ x => x) (fun _ _ x => x)
  · cases hr
    exact hidle rfl rfl
end
section
variable {Γ : Ctx} {Z B : Zone} {ρ : Names} {F : Ix → List Nat} {N : Nat → Prop} {st st' : St} {ps : List V} {vals : List Value} {X : List Nat} {tm : Array Value} {w : World}
theorem SatF.parts {pre mid : List V} (h : SatF Γ Z B ρ F N st (pre ++ (mid ++ ps)) vals X tm w) :
    ∃ va vm vc Fa Fm Fc, vals = va ++ (vm ++ vc) ∧ F none = (Fa ++ (Fm ++ Fc)) ++ X ∧ RelVs Z B w ρ pre va Fa ∧ RelVs Z B w ρ mid vm Fm ∧ RelVs Z B w ρ ps vc Fc ∧
      V.inNs N pre ∧ V.inNs N mid ∧ V.inNs N ps := by
  obtain ⟨⟨Fp, p1, p2⟩, p3⟩ := h.pend
  obtain ⟨va, vb, Fa, Fb, rfl, rfl, q1, q2⟩ := p2.split
  obtain ⟨vm, vc, Fm, Fc, rfl, rfl, q3, q4⟩ := q2.split
  rw [inNs_append, inNs_append] at p3
  exact ⟨va, vm, vc, Fa, Fm, Fc, rfl, p1, q1, q3, q4, p3.1, p3.2.1, p3.2.2⟩
theorem SatF.partsAt {pre mid : List V} {va vm vc : List Value} (h : SatF Γ Z B ρ F N st (pre ++ (mid ++ ps)) (va ++ (vm ++ vc)) X tm w) (la : va.length = pre.length) (lm : vm.length = mid.length) :
    ∃ Fa Fm Fc, F none = (Fa ++ (Fm ++ Fc)) ++ X ∧ RelVs Z B w ρ pre va Fa ∧ RelVs Z B w ρ mid vm Fm ∧ RelVs Z B w ρ ps vc Fc ∧
      V.inNs N pre ∧ V.inNs N mid ∧ V.inNs N ps := by
  obtain ⟨va', vm', vc', Fa, Fm, Fc, e, h1, h2, h3, h4, h5⟩ := h.parts
  have e1 := List.append_inj e (by rw [la, h2.length])
  have e2 := List.append_inj e1.2 (by rw [lm, h3.length])
  obtain ⟨rfl, _⟩ := e1
  obtain ⟨rfl, rfl⟩ := e2
  exact ⟨Fa, Fm, Fc, h1, h2, h3, h4, h5⟩
theorem SatF.regroup {r : Nat} {ps' : List V} {vals' : List Value} {X' : List Nat} {G : List Nat} {Fp' : List Nat}
    (h : SatF Γ Z B ρ F N st ps vals X tm w) (hr : F (some (.r r)) = G)
    (hp : RelVs Z B w ρ ps' vals' Fp') (hn : V.inNs N ps') (hnd : (F none ++ G).Nodup → (Fp' ++ X').Nodup) (hs : ∀ b ∈ Fp' ++ X', b ∈ F none ++ G) :
    ∃ F', F' none = Fp' ++ X' ∧ SatF Γ Z B ρ F' N (upd st (.r r) none) ps' vals' X' tm w := by
  have hnd0 := h.nd (xs := [none, some (.r r)]) (by simp)
  refine ⟨fun x => if x = none then Fp' ++ X' else if x = some (.r r) then [] else F x, by simp, ?_⟩
  refine h.ghost [none, some (.r r)] (by simp) ?_ ?_ (by simp) (fun _ x => x) (fun _ _ => rfl) ?_ ?_ ?_ ?_ ?_ ?_
  · intro x hx
    simp only [List.mem_cons, reduceCtorEq, Option.some.injEq, List.not_mem_nil, or_false, false_or] at hx
    simp [upd, hx]
  · intro x hx
    simp only [List.mem_cons, List.not_mem_nil, or_false, not_or] at hx
    simp [hx.1, hx.2]
  · intro s c hs; simp at hs
  · intro r' c hs hc
    simp only [List.mem_cons, reduceCtorEq, Option.some.injEq, Res.r.injEq, List.not_mem_nil, or_false, false_or] at hs
    subst hs
    simp [upd] at hc
  · intro _
    exact ⟨⟨Fp', by simp, hp⟩, hn⟩
  · intro x hx _
    simp only [List.mem_cons, reduceCtorEq, Option.some.injEq, List.not_mem_nil, or_false, false_or] at hx
    simp [hx]
  · simp only [List.flatMap_cons, List.flatMap_nil, List.append_nil, if_true, reduceCtorEq, if_false, hr] at hnd0 ⊢
    exact hnd hnd0
  · intro b hb
    simp only [List.flatMap_cons, List.flatMap_nil, List.append_nil, if_true, reduceCtorEq, if_false, hr] at hb ⊢
    exact hs b hb
theorem SatF.rehand {ps' : List V} {vals' : List Value} {X' : List Nat} {Fp' : List Nat}
    (h : SatF Γ Z B ρ F N st ps vals X tm w) (hp : RelVs Z B w ρ ps' vals' Fp') (hn : V.inNs N ps') (hnd : (F none).Nodup → (Fp' ++ X').Nodup) (hs : ∀ b ∈ Fp' ++ X', b ∈ F none) :
    ∃ F', F' none = Fp' ++ X' ∧ SatF Γ Z B ρ F' N st ps' vals' X' tm w := by
  refine ⟨fun x => if x = none then Fp' ++ X' else F x, by simp, ?_⟩
  refine h.ghost [none] (by simp) (fun _ _ => rfl) ?_ (by simp) (fun _ x => x) (fun _ _ => rfl) (by simp) (by simp) ?_ (by simp) ?_ ?_
  · intro x hx
    simp only [List.mem_cons, List.not_mem_nil, or_false] at hx
    simp [hx]
  · intro _
    exact ⟨⟨Fp', by simp, hp⟩, hn⟩
  · simpa using hnd (h.nodup none)
  · intro b hb
    simpa using hs b (by simpa using hb)
theorem SatF.lenPend (h : SatF Γ Z B ρ F N st ps vals X tm w) : ps.length = vals.length := by
  obtain ⟨⟨Fp, p1, p2⟩, p3⟩ := h.pend
  exact p2.length
theorem segs_of {xs : List (List V)} {i m : Nat} (h : i + m ≤ xs.length) :
    xs.flatten = (xs.take i).flatten ++ (((xs.drop i).take m).flatten ++ (xs.drop (i + m)).flatten) := by
  rw [← List.flatten_append, ← List.flatten_append]
  congr 1
  rw [← List.drop_drop, List.take_append_drop, List.take_append_drop]
theorem nodup_mid {a m c x g g1 g2 : List Nat} {b : Nat} (h : ((a ++ (m ++ c)) ++ x ++ (b :: (g1 ++ (g ++ g2)))).Nodup) :
    ((a ++ (g ++ c)) ++ (b :: x)).Nodup := by
  rw [List.nodup_iff_count] at h ⊢; intro t; have h := h t; simp only [List.count_append, List.count_cons, List.count_nil] at h ⊢; omega
theorem res_sound : ∀ (n : Nat),
    (∀ (v : V) (d : D) (st st' : St) (R W : List Res) (pre ps : List V) (vals : List Value) (X : List Nat) (F : Ix → List Nat), Run (resV n v) st d st' R W →
      SatF Γ Z B ρ F N st (pre ++ v :: ps) vals X tm w → ∃ F', SatF Γ Z B ρ F' N st' (pre ++ .d d :: ps) vals X tm w) ∧
    (∀ (vs : List V) (ds : List D) (st st' : St) (R W : List Res) (pre ps : List V) (vals : List Value) (X : List Nat) (F : Ix → List Nat), Run (resV.gol n vs) st ds st' R W →
      SatF Γ Z B ρ F N st (pre ++ (vs ++ ps)) vals X tm w → ds.length = vs.length ∧ ∃ F', SatF Γ Z B ρ F' N st' (pre ++ (ds.map V.d ++ ps)) vals X tm w) ∧
    (∀ (vs : List (List V)) (ds : List (List D)) (st st' : St) (R W : List Res) (pre ps : List V) (vals : List Value) (X : List Nat) (F : Ix → List Nat), Run (resV.go n vs) st ds st' R W →
      SatF Γ Z B ρ F N st (pre ++ (vs.flatten ++ ps)) vals X tm w → ds.map List.length = vs.map List.length ∧ ∃ F', SatF Γ Z B ρ F' N st' (pre ++ (ds.flatten.map V.d ++ ps)) vals X tm w) := by
  intro n
  have lists : ∀ n, (∀ (v : V) (d : D) (st st' : St) (R W : List Res) (pre ps : List V) (vals : List Value) (X : List Nat) (F : Ix → List Nat), Run (resV n v) st d st' R W →
      SatF Γ Z B ρ F N st (pre ++ v :: ps) vals X tm w → ∃ F', SatF Γ Z B ρ F' N st' (pre ++ .d d :: ps) vals X tm w) →
      (∀ (vs : List V) (ds : List D) (st st' : St) (R W : List Res) (pre ps : List V) (vals : List Value) (X : List Nat) (F : Ix → List Nat), Run (resV.gol n vs) st ds st' R W →
      SatF Γ Z B ρ F N st (pre ++ (vs ++ ps)) vals X tm w → ds.length = vs.length ∧ ∃ F', SatF Γ Z B ρ F' N st' (pre ++ (ds.map V.d ++ ps)) vals X tm w) ∧
      (∀ (vs : List (List V)) (ds : List (List D)) (st st' : St) (R W : List Res) (pre ps : List V) (vals : List Value) (X : List Nat) (F : Ix → List Nat), Run (resV.go n vs) st ds st' R W →
      SatF Γ Z B ρ F N st (pre ++ (vs.flatten ++ ps)) vals X tm w → ds.map List.length = vs.map List.length ∧ ∃ F', SatF Γ Z B ρ F' N st' (pre ++ (ds.flatten.map V.d ++ ps)) vals X tm w) := by
    intro n hV
    have hgol : ∀ (vs : List V) (ds : List D) (st st' : St) (R W : List Res) (pre ps : List V) (vals : List Value) (X : List Nat) (F : Ix → List Nat), Run (resV.gol n vs) st ds st' R W →
        SatF Γ Z B ρ F N st (pre ++ (vs ++ ps)) vals X tm w → ds.length = vs.length ∧ ∃ F', SatF Γ Z B ρ F' N st' (pre ++ (ds.map V.d ++ ps)) vals X tm w := by
      intro vs
      induction vs with
      | nil =>
        intro ds st st' R W pre ps vals X F hr h
        simp only [resV.gol] at hr
        cases hr
        exact ⟨rfl, F, h⟩
      | cons v vs ih =>
        intro ds st st' R W pre ps vals X F hr h
        simp only [resV.gol] at hr
        obtain ⟨d, st1, R1, W1, R2, W2, r1, r2, -, -⟩ := hr.bind_inv
        obtain ⟨ds', st2, R3, W3, R4, W4, r3, r4, -, -⟩ := r2.bind_inv
        cases r4
        obtain ⟨F1, h1⟩ := hV v d st st1 R1 W1 pre (vs ++ ps) vals X F r1 h
        obtain ⟨hl, F2, h2⟩ := ih ds' st1 st' R3 W3 (pre ++ [.d d]) ps vals X F1 r3 (by simpa using h1)
        exact ⟨by simp [hl], F2, by simpa using h2⟩
    refine ⟨hgol, ?_⟩
    intro vs
    induction vs with
    | nil =>
      intro ds st st' R W pre ps vals X F hr h
      simp only [resV.go] at hr
      cases hr
      exact ⟨rfl, F, h⟩
    | cons v vs ih =>
      intro ds st st' R W pre ps vals X F hr h
      simp only [resV.go] at hr
      obtain ⟨d, st1, R1, W1, R2, W2, r1, r2, -, -⟩ := hr.bind_inv
      obtain ⟨ds', st2, R3, W3, R4, W4, r3, r4, -, -⟩ := r2.bind_inv
      cases r4
      obtain ⟨hl1, F1, h1⟩ := hgol v d st st1 R1 W1 pre (vs.flatten ++ ps) vals X F r1 (by simpa using h)
      obtain ⟨hl, F2, h2⟩ := ih ds' st1 st' R3 W3 (pre ++ d.map V.d) ps vals X F1 r3 (by simpa using h1)
      exact ⟨by simp [hl, hl1], F2, by simpa using h2⟩
  suffices hV : ∀ n, (∀ (v : V) (d : D) (st st' : St) (R W : List Res) (pre ps : List V) (vals : List Value) (X : List Nat) (F : Ix → List Nat), Run (resV n v) st d st' R W →
      SatF Γ Z B ρ F N st (pre ++ v :: ps) vals X tm w → ∃ F', SatF Γ Z B ρ F' N st' (pre ++ .d d :: ps) vals X tm w) from
    ⟨hV n, (lists n (hV n)).1, (lists n (hV n)).2⟩
  clear n
  intro n
  induction n with
  | zero =>
    intro v d st st' R W pre ps vals X F hr h
    simp only [resV] at hr
    cases hr
  | succ n ih =>
    obtain ⟨hgol, hgo⟩ := lists n ih
    intro v d st st' R W pre ps vals X F hr h
    have uni : ∀ {s : Nat} {a : List (List D)} {b : List (List V)}, a.map List.length = b.map List.length → (∀ x ∈ b, x.length = s) → ∀ x ∈ a, x.length = s := by
      intro s a b e hb x hx
      have : x.length ∈ a.map List.length := List.mem_map_of_mem hx
      rw [e] at this
      obtain ⟨y, hy, e⟩ := List.mem_map.1 this
      rw [← e]; exact hb y hy
    have flat : ∀ {a : List (List D)} {b : List (List V)}, a.map List.length = b.map List.length → a.flatten.length = b.flatten.length := by
      intro a b e
      rw [List.length_flatten, List.length_flatten, e]
    have nilRow : ∀ (s : Nat) (A : Option Addr) (st' : St) (F : Ix → List Nat) (va vc : List Value) (r : Nat), st' = upd st (.r r) none →
        SatF Γ Z B ρ F N st (pre ++ ([v] ++ ps)) (va ++ ([.slice A 0 0] ++ vc)) X tm w → va.length = pre.length →
        ∃ F', SatF Γ Z B ρ F' N st' (pre ++ .d (.row .own s []) :: ps) (va ++ .slice A 0 0 :: vc) X tm w := by
      rintro s A _ F va vc r rfl h la
      obtain ⟨Fa, Fm, Fc, e, q1, q2, q3, n1, n2, n3⟩ := h.partsAt la rfl
      obtain ⟨F', _, h'⟩ := h.regroup (r := r) (ps' := pre ++ .d (.row .own s []) :: ps) (vals' := va ++ .slice A 0 0 :: vc) (X' := X) (Fp' := Fa ++ Fc) rfl
        (by
          have := RelVs.append q1 (RelVs.append (RelVs.d (RelDs.none (m := .own) (s := s) (A := A) .nil) .nil) q3)
          simpa using this)
        (by rw [inNs_append]; exact ⟨n1, trivial, n3⟩) (by rw [e]; intro hh; rw [List.nodup_iff_count] at hh ⊢; intro t; have hh := hh t; simp only [List.count_append, List.count_cons, List.count_nil] at hh ⊢; omega) (by rw [e]; intro x hx; simp only [List.mem_append, List.mem_cons] at hx ⊢; grind)
      exact ⟨F', h'⟩
    unfold resV at hr
    split at hr
    · cases hr; exact ⟨F, h⟩
    · -- a slice of an object
      rename_i r s i m
      cases hr with
      | @get _ _ _ _ c _ _ _ g1 g2 =>
        dsimp only at g2
        split at g2
        · rename_i s' xs
          cases g2 with
          | req g3 g4 =>
            cases g4 with
            | set g5 =>
              obtain ⟨dss, st1, R1, W1, R2, W2, r1, r2, -, -⟩ := g5.bind_inv
              cases r2
              obtain ⟨rfl, hle⟩ := g3
              obtain ⟨hNr, hO, hin⟩ := h.obj r _ g1
              obtain ⟨va, vm, vc, Fa, Fm, Fc, rfl, e0, q1, q2, q3, n1, n2, n3⟩ := SatF.parts (pre := pre) (mid := [.sl r s i m]) (ps := ps) (by simpa using h)
              have la := q1.length.symm
              cases q2 with
              | @sl _ _ _ _ c A _ _ _ sl t1 =>
                cases t1
                have empty : m = 0 → c = 0 → ∃ F', SatF Γ Z B ρ F' N st' (pre ++ .d (.row .own s dss) :: ps) (va ++ ([.slice A m c] ++ vc)) X tm w := by
                  rintro rfl rfl
                  simp only [List.take_zero, resV.go] at r1
                  cases r1
                  exact nilRow s A _ F va vc r rfl (by simpa using h) la
                rcases sl with ⟨e1, e2⟩ | ⟨b, o, e1, e2, e3, e4⟩
                · exact empty e1 e2
                · generalize hG : F (some (.r r)) = G at hO
                  cases hO with
                  | none hρ => rw [hρ] at e1; cases e1
                  | @some _ b' o' _ us FG hρ hrel hone hrange hblk huni =>
                    rw [hρ] at e1
                    cases e1
                    rw [segs_of hle] at hrel
                    obtain ⟨u1, u23, G1, G23, rfl, rfl, k1, k23⟩ := hrel.split
                    obtain ⟨u2, u3, G2, G3, rfl, rfl, k2, k3⟩ := k23.split
                    have hlen1 : u1.length = i * s := by rw [← k1.length, flatten_take_length huni (by omega)]
                    have hseg : ∀ x ∈ (xs.drop i).take m, x.length = s := fun x hx => huni x (List.mem_of_mem_drop (List.mem_of_mem_take hx))
                    have hinS : V.inNss N ((xs.drop i).take m) := inNss_iff.2 fun x hx => inNss_iff.1 hin x (List.mem_of_mem_drop (List.mem_of_mem_take hx))
                    obtain ⟨F1, f1, h1⟩ := h.regroup (r := r) (ps' := pre ++ (((xs.drop i).take m).flatten ++ ps)) (vals' := va ++ (u2 ++ vc)) (X' := b :: X) (Fp' := Fa ++ (G2 ++ Fc)) hG
                      (RelVs.append q1 (RelVs.append k2 q3))
                      (by rw [inNs_append, inNs_append]; exact ⟨n1, inNss_flatten hinS, n3⟩) (by rw [e0]; exact nodup_mid) (by rw [e0]; intro x hx; simp only [List.mem_append, List.mem_cons] at hx ⊢; grind)
                    obtain ⟨hmap, F2, h2⟩ := hgo _ dss _ _ _ _ pre ps _ _ F1 r1 h1
                    have hfl := flat hmap
                    obtain ⟨Fa', Fm', Fc', e', q1', q2', q3', n1', n2', n3'⟩ := h2.partsAt la (by rw [List.length_map, hfl, ← k2.length])
                    have q2'' := RelVs.toD q2'
                    rw [rangeAt_append, rangeAt_append, hlen1] at hrange
                    have hml : dss.length = m := by
                      have := congrArg List.length hmap
                      simp only [List.length_map, List.length_take, List.length_drop] at this
                      omega
                    have hrow : RelVs Z B w ρ [.d (.row .own s dss)] [.slice (some ⟨b, o + i * s, none⟩) dss.length c] (b :: Fm') := by
                      have := RelVs.d (RelDs.row (m := .own) (c := c) q2'' hrange.2.1 trivial (fun _ => e3.le (by rw [Nat.add_mul]; omega)) (fun e => absurd rfl e) (uni hmap hseg) (by omega) .nil) (RelVs.nil (Z := Z) (B := B) (w := w) (ρ := ρ))
                      simpa [Md.foot] using this
                    obtain ⟨F3, f3, h3⟩ := h2.rehand (ps' := pre ++ .d (.row .own s dss) :: ps) (vals' := va ++ ([.slice A m c] ++ vc)) (X' := X) (Fp' := Fa' ++ ((b :: Fm') ++ Fc'))
                      (by
                        rw [e2, ← hml]
                        exact RelVs.append q1' (RelVs.append hrow q3'))
                      (by rw [inNs_append]; exact ⟨n1', trivial, n3'⟩) (by rw [e']; intro hh; rw [List.nodup_iff_count] at hh ⊢; intro t; have hh := hh t; simp only [List.count_append, List.count_cons, List.count_nil] at hh ⊢; omega) (by rw [e']; intro x hx; simp only [List.mem_append, List.mem_cons] at hx ⊢; grind)
                    exact ⟨F3, h3⟩
        · cases g2
    · -- a pointer to an object
      rename_i r s
      cases hr with
      | @get _ _ _ _ c _ _ _ g1 g2 =>
        dsimp only at g2
        split at g2
        · rename_i s' cs
          cases g2 with
          | set g5 =>
            obtain ⟨ds, st1, R1, W1, R2, W2, r1, r2, -, -⟩ := g5.bind_inv
            cases r2
            obtain ⟨hNr, hO, hin⟩ := h.obj r _ g1
            obtain ⟨va, vm, vc, Fa, Fm, Fc, rfl, e0, q1, q2, q3, n1, n2, n3⟩ := SatF.parts (pre := pre) (mid := [.mp r s 0 0]) (ps := ps) (by simpa using h)
            have la := q1.length.symm
            cases q2 with
            | @mp _ _ _ _ b o _ _ _ e1 t1 =>
              cases t1
              generalize hG : F (some (.r r)) = G at hO
              cases hO with
              | @some _ b' o' _ us FG hρ hrel hone hrange hblk huni =>
                rw [hρ] at e1
                cases e1
                simp only [List.flatten_cons, List.flatten_nil, List.append_nil] at hrel
                obtain ⟨F1, f1, h1⟩ := h.regroup (r := r) (ps' := pre ++ (cs ++ ps)) (vals' := va ++ (us ++ vc)) (X' := b :: X) (Fp' := Fa ++ (FG ++ Fc)) hG
                  (RelVs.append q1 (RelVs.append hrel q3))
                  (by rw [inNs_append, inNs_append]; exact ⟨n1, hin.1, n3⟩) (by rw [e0]; intro hh; rw [List.nodup_iff_count] at hh ⊢; intro t; have hh := hh t; simp only [List.count_append, List.count_cons, List.count_nil] at hh ⊢; omega) (by rw [e0]; intro x hx; simp only [List.mem_append, List.mem_cons] at hx ⊢; grind)
                obtain ⟨hl, F2, h2⟩ := hgol _ ds _ _ _ _ pre ps _ _ F1 r1 h1
                obtain ⟨Fa', Fm', Fc', e', q1', q2', q3', n1', n2', n3'⟩ := h2.partsAt la (by rw [List.length_map, hl, ← hrel.length])
                have q2'' := RelVs.toD q2'
                have hs' : cs.length = s' := huni cs (by simp)
                have hrow : RelVs Z B w ρ [.d (.ptr .own ds)] [.pointer (some ⟨b, o, none⟩)] (b :: Fm') := by
                  have := RelVs.d (RelDs.ptr (m := .own) q2'' hrange trivial (fun _ => hblk.le (by rw [hl, hs']; simp)) (fun e => absurd rfl e) .nil) (RelVs.nil (Z := Z) (B := B) (w := w) (ρ := ρ))
                  simpa [Md.foot] using this
                obtain ⟨F3, f3, h3⟩ := h2.rehand (ps' := pre ++ .d (.ptr .own ds) :: ps) (vals' := va ++ ([.pointer (some ⟨b, o + 0 * s + 0, none⟩)] ++ vc)) (X' := X) (Fp' := Fa' ++ ((b :: Fm') ++ Fc'))
                  (by
                    exact RelVs.append q1' (RelVs.append (show RelVs Z B w ρ [.d (.ptr .own ds)] [.pointer (some ⟨b, o + 0 * s + 0, none⟩)] (b :: Fm') from by simpa using hrow) q3'))
                  (by rw [inNs_append]; exact ⟨n1', trivial, n3'⟩) (by rw [e']; intro hh; rw [List.nodup_iff_count] at hh ⊢; intro t; have hh := hh t; simp only [List.count_append, List.count_cons, List.count_nil] at hh ⊢; omega) (by rw [e']; intro x hx; simp only [List.mem_append, List.mem_cons] at hx ⊢; grind)
                exact ⟨F3, h3⟩
        · cases g2
    · -- a fresh array
      rename_i s xs
      obtain ⟨dss, st1, R1, W1, R2, W2, r1, r2, -, -⟩ := hr.bind_inv
      cases r2
      obtain ⟨va, vm, vc, Fa, Fm, Fc, rfl, e0, q1, q2, q3, n1, n2, n3⟩ := SatF.parts (pre := pre) (mid := [.arr s xs]) (ps := ps) (by simpa using h)
      have la := q1.length.symm
      cases q2 with
      | @arr _ b _ us G _ _ _ t1 t2 t3 t4 t5 t6 =>
        cases t6
        obtain ⟨F1, f1, h1⟩ := h.rehand (ps' := pre ++ (xs.flatten ++ ps)) (vals' := va ++ (us ++ vc)) (X' := b :: X) (Fp' := Fa ++ (G ++ Fc))
          (RelVs.append q1 (RelVs.append t1 q3))
          (by rw [inNs_append, inNs_append]; exact ⟨n1, inNss_flatten n2.1, n3⟩) (by rw [e0]; intro hh; rw [List.nodup_iff_count] at hh ⊢; intro t; have hh := hh t; simp only [List.count_append, List.count_cons, List.count_nil] at hh ⊢; omega) (by rw [e0]; intro x hx; simp only [List.mem_append, List.mem_cons] at hx ⊢; grind)
        obtain ⟨hmap, F2, h2⟩ := hgo _ dss _ _ _ _ pre ps _ _ F1 r1 h1
        have hfl := flat hmap
        obtain ⟨Fa', Fm', Fc', e', q1', q2', q3', n1', n2', n3'⟩ := h2.partsAt la (by rw [List.length_map, hfl, ← t1.length])
        have q2'' := RelVs.toD q2'
        have hml : dss.length = xs.length := by
          have := congrArg List.length hmap
          simpa using this
        have hrow : RelVs Z B w ρ [.d (.row .own s dss)] [.slice (some ⟨b, 0, none⟩) dss.length xs.length] (b :: Fm') := by
          have := RelVs.d (RelDs.row (m := .own) (c := xs.length) q2'' t3 trivial (fun _ => t4.le (by omega)) (fun e => absurd rfl e) (uni hmap t5) (by omega) .nil) (RelVs.nil (Z := Z) (B := B) (w := w) (ρ := ρ))
          simpa [Md.foot] using this
        obtain ⟨F3, f3, h3⟩ := h2.rehand (ps' := pre ++ .d (.row .own s dss) :: ps) (vals' := va ++ ([.slice (some ⟨b, 0, none⟩) xs.length xs.length] ++ vc)) (X' := X) (Fp' := Fa' ++ ((b :: Fm') ++ Fc'))
          (by
            rw [hml] at hrow
            exact RelVs.append q1' (RelVs.append hrow q3'))
          (by rw [inNs_append]; exact ⟨n1', trivial, n3'⟩) (by rw [e']; intro hh; rw [List.nodup_iff_count] at hh ⊢; intro t; have hh := hh t; simp only [List.count_append, List.count_cons, List.count_nil] at hh ⊢; omega) (by rw [e']; intro x hx; simp only [List.mem_append, List.mem_cons] at hx ⊢; grind)
        exact ⟨F3, h3⟩
    · cases hr
end
theorem heap_setCell (w : World) (a : Addr) (v : Value) (k : Nat) (h : k ≠ a.block) : (w.setCell a v).heap[k]? = w.heap[k]? := by
  simp only [World.setCell, Array.getElem?_modify]
  rw [if_neg (fun e => h e.symm)]
theorem setCells_heap (b : Nat) : ∀ (vs : List Value) (o : Nat) (w : World) (k : Nat), k ≠ b → (w.setCells b o vs).heap[k]? = w.heap[k]?
  | [], _, _, _, _ => rfl
  | v :: r, o, w, k, h => by
    rw [World.setCells, setCells_heap b r _ _ k h, heap_setCell w _ _ k (by simpa using h)]
theorem setCells_size (b : Nat) : ∀ (vs : List Value) (o : Nat) (w : World), (w.setCells b o vs).heap.size = w.heap.size
  | [], _, _ => rfl
  | v :: r, o, w => by rw [World.setCells, setCells_size b r]; simp
theorem setCells_os (b : Nat) : ∀ (vs : List Value) (o : Nat) (w : World), (w.setCells b o vs).os = w.os ∧ (w.setCells b o vs).tape = w.tape ∧ (w.setCells b o vs).output = w.output
  | [], _, _ => ⟨rfl, rfl, rfl⟩
  | v :: r, o, w => by rw [World.setCells]; exact setCells_os b r _ _
theorem setCell_blk {w : World} {a : Addr} {v : Value} {b n : Nat} (h : Blk w b n) : Blk (w.setCell a v) b n := by
  obtain ⟨arr, ty, fz, h1, h0, h2⟩ := h
  by_cases e : b = a.block
  · refine ⟨if a.spot.isSome then arr else arr.setIfInBounds a.off v, ty, fz, ?_, ?_, ?_⟩
    · simp only [World.setCell, Array.getElem?_modify]
      subst e
      simp [h1]
    · intro o ho
      apply h0
      split at ho
      · exact ho
      · simpa using ho
    · split
      · exact h2
      · simpa using h2
  · exact ⟨arr, ty, fz, by rw [heap_setCell w a v b e]; exact h1, h0, h2⟩
theorem setCells_blk (b : Nat) : ∀ (vs : List Value) (o : Nat) (w : World) (k n : Nat), Blk w k n → Blk (w.setCells b o vs) k n
  | [], _, _, _, _, h => h
  | v :: r, o, w, k, n, h => by rw [World.setCells]; exact setCells_blk b r _ _ k n (setCell_blk h)
theorem grow_setCells (w : World) (b o : Nat) (vs : List Value) : Grow w (w.setCells b o vs) :=
  ⟨(setCells_os b vs o w).1, (setCells_os b vs o w).2.1, (setCells_os b vs o w).2.2, Nat.le_of_eq (setCells_size b vs o w).symm, fun k n h => setCells_blk b vs o w k n h⟩
theorem alloc_heap {w : World} {o : Obj} {k : Nat} (h : k < w.heap.size) : (w.alloc o).heap[k]? = w.heap[k]? := by
  simp only [World.alloc, Array.getElem?_push]
  rw [if_neg (by omega)]
theorem grow_alloc (w : World) (o : Obj) : Grow w (w.alloc o) :=
  ⟨rfl, rfl, rfl, by simp, fun b n h => h.same (alloc_heap h.lt)⟩
theorem grow_drew (w : World) : Grow w w.drew := ⟨rfl, rfl, rfl, Nat.le_refl _, fun _ _ h => h⟩
theorem blk_alloc (w : World) (arr : Array Value) (ty : TypeId) : Blk (w.alloc (.cells arr ty)) w.heap.size arr.size :=
  ⟨arr, ty, (0, 0), by simp only [World.alloc, Array.getElem?_push]; simp, by simp, Nat.le_refl _⟩
theorem rangeAt_alloc_new (w : World) (us : List Value) (rest : Array Value) (ty : TypeId) : (w.alloc (.cells (us.toArray ++ rest) ty)).rangeAt w.heap.size 0 us := by
  intro j v hv
  have hj := (List.getElem?_eq_some_iff.1 hv).1
  rw [Nat.zero_add, World.cell?_alloc_new, Array.getElem?_append_left (by simpa using hj)]
  simpa using hv
section
variable {Γ : Ctx} {Z B : Zone} {ρ : Names} {F : Ix → List Nat} {N : Nat → Prop} {st st' : St} {ps : List V} {vals : List Value} {X : List Nat} {tm : Array Value} {w : World}
theorem SatF.drew (h : SatF Γ Z B ρ F N st ps vals X tm w) : SatF Γ Z B ρ F N st ps vals X tm w.drew :=
  h.step [] (by simp) (grow_drew w) (fun _ _ _ => rfl) (fun _ _ => rfl) (fun _ _ => rfl) (fun _ _ hs => ⟨hs, rfl⟩) (fun _ => ⟨rfl, rfl, rfl⟩) (fun _ x => x) (fun _ _ => rfl)
    (fun _ x => x) (fun _ x => x) h.zB (fun _ x => .inl x) (fun _ x => .inl x) (by simp) (by simp) (by simp) (by simp) (by simp) (by simp)
theorem SatF.weakN {N' : Nat → Prop} (h : SatF Γ Z B ρ F N st ps vals X tm w) (hN : ∀ r, N r → N' r) : SatF Γ Z B ρ F N' st ps vals X tm w :=
  h.ghost [] (by simp) (fun _ _ => rfl) (fun _ _ => rfl) (fun _ => ⟨rfl, rfl, rfl⟩) hN (fun _ _ => rfl) (by simp) (by simp) (by simp) (by simp) (by simp) (by simp)
theorem SatF.drop {v : V} {val : Value} (h : SatF Γ Z B ρ F N st (v :: ps) (val :: vals) X tm w) : ∃ F', SatF Γ Z B ρ F' N st ps vals X tm w := by
  obtain ⟨⟨Fp, p1, p2⟩, p3⟩ := h.pend
  obtain ⟨v', vs', Fx, G, e, rfl, q1, q2⟩ := p2.cons_split
  cases e
  obtain ⟨F', _, h'⟩ := h.rehand (ps' := ps) (vals' := vals) (X' := X) (Fp' := G) q2 p3.2
    (by rw [p1]; intro hh; rw [List.nodup_iff_count] at hh ⊢; intro t; have hh := hh t; simp only [List.count_append, List.count_cons, List.count_nil] at hh ⊢; omega)
    (by rw [p1]; intro x hx; simp only [List.mem_append, List.mem_cons] at hx ⊢; grind)
  exact ⟨F', h'⟩
theorem SatF.dropX (h : SatF Γ Z B ρ F N st ps vals X tm w) : ∃ F', SatF Γ Z B ρ F' N st ps vals [] tm w := by
  obtain ⟨⟨Fp, p1, p2⟩, p3⟩ := h.pend
  obtain ⟨F', _, h'⟩ := h.rehand (ps' := ps) (vals' := vals) (X' := []) (Fp' := Fp) p2 p3
    (by rw [p1]; intro hh; rw [List.nodup_iff_count] at hh ⊢; intro t; have hh := hh t; simp only [List.count_append, List.count_cons, List.count_nil] at hh ⊢; omega)
    (by rw [p1]; intro x hx; simp only [List.mem_append, List.mem_cons] at hx ⊢; grind)
  exact ⟨F', h'⟩
theorem SatF.front {pre mid : List V} {va vm vc : List Value} (h : SatF Γ Z B ρ F N st (pre ++ (mid ++ ps)) (va ++ (vm ++ vc)) X tm w) (la : va.length = pre.length) (lm : vm.length = mid.length) :
    ∃ F', SatF Γ Z B ρ F' N st (mid ++ (pre ++ ps)) (vm ++ (va ++ vc)) X tm w := by
  obtain ⟨Fa, Fm, Fc, e', q1, q2, q3, n1, n2, n3⟩ := h.partsAt la lm
  obtain ⟨F', _, h'⟩ := h.rehand (ps' := mid ++ (pre ++ ps)) (vals' := vm ++ (va ++ vc)) (X' := X) (Fp' := Fm ++ (Fa ++ Fc)) (RelVs.append q2 (RelVs.append q1 q3))
    (by rw [inNs_append, inNs_append]; exact ⟨n2, n1, n3⟩)
    (by rw [e']; intro hh; rw [List.nodup_iff_count] at hh ⊢; intro t; have hh := hh t; simp only [List.count_append, List.count_cons, List.count_nil] at hh ⊢; omega)
    (by rw [e']; intro x hx; simp only [List.mem_append, List.mem_cons] at hx ⊢; grind)
  exact ⟨F', h'⟩
theorem SatF.swap {a b : V} {va vb : Value} (h : SatF Γ Z B ρ F N st (a :: b :: ps) (va :: vb :: vals) X tm w) : ∃ F', SatF Γ Z B ρ F' N st (b :: a :: ps) (vb :: va :: vals) X tm w :=
  SatF.front (pre := [a]) (mid := [b]) (va := [va]) (vm := [vb]) h rfl rfl
theorem setSeg_length {α : Type} {row : List α} {j : Nat} {cs : List α} (h : j + cs.length ≤ row.length) : (setSeg row j cs).length = row.length := by
  simp [setSeg]; omega
theorem mem_set_length {α : Type} {s i : Nat} {xs : List (List α)} {r : List α} (h : ∀ x ∈ xs, x.length = s) (hr : r.length = s) : ∀ x ∈ xs.set i r, x.length = s := by
  intro x hx
  rcases List.mem_or_eq_of_mem_set hx with h1 | h1
  · exact h x h1
  · rw [h1]; exact hr
theorem flatten_set {α : Type} {xs : List (List α)} {i : Nat} {row row' : List α} (h : xs[i]? = some row) :
    (xs.set i row').flatten = (xs.take i).flatten ++ (row' ++ (xs.drop (i + 1)).flatten) := by
  have hi := (List.getElem?_eq_some_iff.1 h).1
  have e : (xs.set i row')[i]? = some row' := by simp [hi]
  rw [flatten_at e]
  congr 2
  · rw [List.take_set_of_le (Nat.le_refl _)]
  · rw [List.drop_set_of_lt (by omega)]
theorem SatF.objAt {r s b o : Nat} {xs : List (List V)} (h : SatF Γ Z B ρ F N st ps vals X tm w) (hs : st (.r r) = some (.o s xs)) (hρ : ρ r = some ⟨b, o, none⟩) :
    ∃ us G, F (some (.r r)) = b :: G ∧ RelVs Z B w ρ xs.flatten us G ∧ (∀ v ∈ us, v.oneCell' = true) ∧ w.rangeAt b o us ∧ Blk w b (o + xs.length * s) ∧ (∀ x ∈ xs, x.length = s) ∧ V.inNss N xs := by
  obtain ⟨hN, hO, hin⟩ := h.obj r _ hs
  generalize hG : F (some (.r r)) = G at hO
  cases hO with
  | none h1 => rw [hρ] at h1; cases h1
  | some h1 h2 h3 h4 h5 h6 =>
    rw [hρ] at h1
    cases h1
    exact ⟨_, _, rfl, h2, h3, h4, h5, h6, hin⟩
theorem seg_of {s o b i j n : Nat} {xs : List (List V)} {row : List V} {us : List Value} {G : List Nat} (hrel : RelVs Z B w ρ xs.flatten us G) (hrange : w.rangeAt b o us)
    (huni : ∀ x ∈ xs, x.length = s) (hrow : xs[i]? = some row) (hj : j + n ≤ row.length) :
    ∃ u1 u2 u3 G1 G2 G3, us = u1 ++ (u2 ++ u3) ∧ G = G1 ++ (G2 ++ G3) ∧ u1.length = i * s + j ∧
      xs.flatten = ((xs.take i).flatten ++ row.take j) ++ ((row.drop j).take n ++ (row.drop (j + n) ++ (xs.drop (i + 1)).flatten)) ∧
      RelVs Z B w ρ ((xs.take i).flatten ++ row.take j) u1 G1 ∧ RelVs Z B w ρ ((row.drop j).take n) u2 G2 ∧ RelVs Z B w ρ (row.drop (j + n) ++ (xs.drop (i + 1)).flatten) u3 G3 ∧
      w.rangeAt b (o + i * s + j) u2 := by
  have hi := (List.getElem?_eq_some_iff.1 hrow).1
  have e : xs.flatten = ((xs.take i).flatten ++ row.take j) ++ ((row.drop j).take n ++ (row.drop (j + n) ++ (xs.drop (i + 1)).flatten)) := by
    rw [flatten_at hrow]
    simp only [List.append_assoc]
    congr 1
    rw [← List.append_assoc (List.take n _), ← List.drop_drop (i := n) (l := row), List.take_append_drop, ← List.append_assoc, List.take_append_drop]
  rw [e] at hrel
  obtain ⟨u1, u23, G1, G23, rfl, rfl, k1, k23⟩ := hrel.split
  obtain ⟨u2, u3, G2, G3, rfl, rfl, k2, k3⟩ := k23.split
  have hl : u1.length = i * s + j := by
    rw [← k1.length, List.length_append, flatten_take_length huni (by omega), List.length_take]
    omega
  rw [rangeAt_append, rangeAt_append, hl] at hrange
  exact ⟨u1, u2, u3, G1, G2, G3, rfl, rfl, hl, e, k1, k2, k3, by rw [Nat.add_assoc]; exact hrange.2.1⟩
theorem nodup_drop_mid {a m c x g1 g2 g3 : List Nat} {b : Nat} (h : (((a ++ m) ++ x) ++ (b :: (g1 ++ (g2 ++ g3)))).Nodup) : ((m ++ x) ++ (b :: (g1 ++ (a ++ g3)))).Nodup := by
  rw [List.nodup_iff_count] at h ⊢; intro t; have h := h t; simp only [List.count_append, List.count_cons, List.count_nil] at h ⊢; omega
theorem SatF.writeF {r s b o : Nat} {xs xs' : List (List V)} {A M C cs : List V} {us : List Value} {vc : List Value} (h : SatF Γ Z B ρ F N st (cs ++ ps) (us ++ vc) X tm w)
    (hs : st (.r r) = some (.o s xs)) (hρ : ρ r = some ⟨b, o, none⟩) (hxs : xs.flatten = A ++ (M ++ C)) (hxs' : xs'.flatten = A ++ (cs ++ C)) (hM : M.length = cs.length) (hlen : xs'.length = xs.length)
    (huni' : ∀ x ∈ xs', x.length = s) (hinset : V.inNs N cs → V.inNss N xs → V.inNss N xs') (hone : ∀ u ∈ us, u.oneCell' = true) (hl : us.length = cs.length) :
    w.there b (o + A.length) us.length ∧ ∃ F', SatF Γ Z B ρ F' N (upd st (.r r) (some (.o s xs'))) ps vc X tm (w.setCells b (o + A.length) us) := by
  obtain ⟨vs, G, hF, hrel, h1, hrange, hblk, huni, hin⟩ := h.objAt hs hρ
  have hfl := flatten_length huni
  rw [hxs] at hrel hfl
  obtain ⟨u1, u23, G1, G23, rfl, rfl, k1, k23⟩ := hrel.split
  obtain ⟨u2, u3, G2, G3, rfl, rfl, k2, k3⟩ := k23.split
  have hl1 : u1.length = A.length := k1.length.symm
  have hbound : o + A.length + us.length ≤ o + xs.length * s := by
    simp only [List.length_append] at hfl
    omega
  have hthere := hblk.there hbound
  refine ⟨hthere, ?_⟩
  obtain ⟨va, vm, vc', Fa, Fm, Fc, e1, e2, q1, q2, q3, n1, n2, n3⟩ := SatF.parts (pre := []) (mid := cs) (ps := ps) (by simpa using h)
  cases q1
  have e1' := List.append_inj (by simpa using e1) (by rw [hl, q2.length])
  obtain ⟨rfl, rfl⟩ := e1'
  have hnd := h.nd (xs := [none, some (.r r)]) (by simp)
  simp only [List.flatMap_cons, List.flatMap_nil, List.append_nil, e2, hF, List.nil_append] at hnd
  have hl2 : u2.length = us.length := by rw [← k2.length, hM, hl]
  have same : ∀ k, k ≠ b → (w.setCells b (o + A.length) us).heap[k]? = w.heap[k]? := fun k hk => setCells_heap b us _ w k hk
  have hbF : ∀ x ∈ Fm ++ Fc ++ X, x ≠ b := by
    intro x hx e
    subst e
    rw [List.nodup_append] at hnd
    exact hnd.2.2 x hx x (by simp) rfl
  have hbG : ∀ x ∈ G1 ++ (G2 ++ G3), x ≠ b := by
    intro x hx e
    subst e
    rw [List.nodup_append] at hnd
    have := hnd.2.1
    rw [List.nodup_cons] at this
    exact this.1 hx
  have hZb : ∀ k, B k → k ≠ b := by
    intro k hk e
    subst e
    exact (h.own (some (.r r)) k (by rw [hF]; simp)).1 hk
  have mono : ∀ {ds : List V} {vs : List Value} {G : List Nat}, RelVs Z B w ρ ds vs G → V.inNs N ds → (∀ x ∈ G, x ≠ b) → RelVs Z B (w.setCells b (o + A.length) us) ρ ds vs G := by
    intro ds vs G h1 h2 h3
    exact h1.mono h2 (fun _ _ => rfl) (fun x hx => same x (h3 x hx)) (fun x hx => same x (hZb x (h.zB x hx))) (fun x hx => same x (hZb x hx)) (fun _ x => x) (fun _ x => x) (fun k n hk => setCells_blk b us _ w k n hk)
  refine ⟨fun x => if x = none then Fc ++ X else if x = some (.r r) then b :: (G1 ++ (Fm ++ G3)) else F x, ?_⟩
  refine h.step [none, some (.r r)] (by simp) (grow_setCells _ _ _ _) ?_ ?_ ?_ (fun _ _ hs => ⟨hs, rfl⟩) (by simp) (fun _ x => x) (fun _ _ => rfl)
    (fun _ x => x) (fun _ x => x) h.zB (fun _ x => .inl x) (fun _ x => .inl x) ?_ ?_ ?_ ?_ ?_ ?_
  · intro k hk hn
    refine same k (fun e => hn ?_)
    subst e
    simp [hF]
  · intro x hx
    simp only [List.mem_cons, reduceCtorEq, Option.some.injEq, List.not_mem_nil, or_false, false_or] at hx
    simp [upd, hx]
  · intro x hx
    simp only [List.mem_cons, List.not_mem_nil, or_false, not_or] at hx
    simp [hx.1, hx.2]
  · intro s c hs; simp at hs
  · intro r' c hs' hc
    simp only [List.mem_cons, reduceCtorEq, Option.some.injEq, Res.r.injEq, List.not_mem_nil, or_false, false_or] at hs'
    subst hs'
    simp [upd] at hc
    subst hc
    refine ⟨(h.obj _ _ hs).1, ?_, hinset n2 hin⟩
    simp only [reduceCtorEq, if_false, if_true]
    have hinfl := inNss_flatten hin
    rw [hxs, inNs_append, inNs_append] at hinfl
    refine .some (vs := u1 ++ (us ++ u3)) hρ ?_ ?_ ?_ ?_ huni'
    · rw [hxs']
      exact RelVs.append (mono k1 hinfl.1 (fun x hx => hbG x (by simp [hx]))) (RelVs.append (mono q2 n2 (fun x hx => hbF x (by simp [hx]))) (mono k3 hinfl.2.2 (fun x hx => hbG x (by simp [hx]))))
    · intro v hv
      simp only [List.mem_append] at hv
      rcases hv with hv | hv | hv
      · exact h1 v (by simp [hv])
      · exact hone v hv
      · exact h1 v (by simp [hv])
    · have hr' := hrange
      rw [rangeAt_append, rangeAt_append, hl1, hl2] at hr'
      rw [rangeAt_append, rangeAt_append, hl1]
      refine ⟨World.rangeAt_setCells_apart hr'.1 _ _ _ (.inr (.inl (by rw [hl1]; omega))), ?_, World.rangeAt_setCells_apart hr'.2.2 _ _ _ (.inr (.inr (by omega)))⟩
      exact World.rangeAt_setCells_same w b (o + A.length) us hthere
    · rw [hlen]; exact setCells_blk b us _ w _ _ hblk
  · intro _
    refine ⟨⟨Fc, by simp, ?_⟩, n3⟩
    exact mono q3 n3 (fun x hx => hbF x (by simp [hx]))
  · intro x hx hn
    simp only [List.mem_cons, reduceCtorEq, Option.some.injEq, List.not_mem_nil, or_false, false_or] at hx
    subst hx
    simp [upd] at hn
  · simp only [List.flatMap_cons, List.flatMap_nil, List.append_nil, if_true, reduceCtorEq, if_false]
    exact nodup_drop_mid (c := []) hnd
  · intro k hk
    simp only [List.flatMap_cons, List.flatMap_nil, List.append_nil, if_true, reduceCtorEq, if_false, List.mem_append, List.mem_cons] at hk
    have hmem : k ∈ F none ∨ k ∈ F (some (.r r)) := by
      rw [e2, hF]
      simp only [List.mem_append, List.mem_cons]
      grind
    refine ⟨.inl ?_, ?_⟩
    · simp only [List.flatMap_cons, List.flatMap_nil, List.append_nil, List.mem_append]
      exact hmem
    · rcases hmem with hm | hm
      · exact ⟨by rw [setCells_size]; exact (h.own _ k hm).2.1, (h.own _ k hm).1⟩
      · exact ⟨by rw [setCells_size]; exact (h.own _ k hm).2.1, (h.own _ k hm).1⟩
theorem row_parts {s i j n : Nat} {xs : List (List V)} {row : List V} (huni : ∀ x ∈ xs, x.length = s) (hrow : xs[i]? = some row) (hj : j + n ≤ row.length) :
    xs.flatten = ((xs.take i).flatten ++ row.take j) ++ ((row.drop j).take n ++ (row.drop (j + n) ++ (xs.drop (i + 1)).flatten)) ∧ ((xs.take i).flatten ++ row.take j).length = i * s + j := by
  have hi := (List.getElem?_eq_some_iff.1 hrow).1
  constructor
  · rw [flatten_at hrow]
    simp only [List.append_assoc]
    congr 1
    rw [← List.append_assoc (List.take n _), ← List.drop_drop (i := n) (l := row), List.take_append_drop, ← List.append_assoc, List.take_append_drop]
  · rw [List.length_append, flatten_take_length huni (by omega), List.length_take]
    omega
theorem SatF.write {r s b o i j : Nat} {xs : List (List V)} {row cs : List V} {us : List Value} {vc : List Value} (h : SatF Γ Z B ρ F N st (cs ++ ps) (us ++ vc) X tm w)
    (hs : st (.r r) = some (.o s xs)) (hρ : ρ r = some ⟨b, o, none⟩) (hrow : xs[i]? = some row) (hj : j + cs.length ≤ row.length) (hone : ∀ u ∈ us, u.oneCell' = true) (hl : us.length = cs.length) :
    w.there b (o + i * s + j) us.length ∧ ∃ F', SatF Γ Z B ρ F' N (upd st (.r r) (some (.o s (xs.set i (setSeg row j cs))))) ps vc X tm (w.setCells b (o + i * s + j) us) := by
  obtain ⟨vs, G, hF, hrel, h1, hrange, hblk, huni, hin⟩ := h.objAt hs hρ
  obtain ⟨e1, e2⟩ := row_parts (n := cs.length) huni hrow hj
  have hrl : row.length = s := huni row (List.mem_of_getElem? hrow)
  have := h.writeF (A := (xs.take i).flatten ++ row.take j) (M := (row.drop j).take cs.length) (C := row.drop (j + cs.length) ++ (xs.drop (i + 1)).flatten) (xs' := xs.set i (setSeg row j cs)) hs hρ e1
    (by rw [flatten_set hrow]; simp [setSeg]) (by simp; omega) (by simp) (mem_set_length huni (by rw [setSeg_length hj]; exact hrl))
    (fun n2 hin => inNss_iff.2 fun x hx => by
      have hinrow : V.inNs N row := inNss_iff.1 hin row (List.mem_of_getElem? hrow)
      rcases List.mem_or_eq_of_mem_set hx with h1 | h1
      · exact inNss_iff.1 hin x h1
      · rw [h1]
        simp only [setSeg]
        rw [inNs_append, inNs_append]
        rw [inNs_iff] at hinrow
        exact ⟨⟨inNs_iff.2 fun x hx => hinrow x (List.mem_of_mem_take hx), n2⟩, inNs_iff.2 fun x hx => hinrow x (List.mem_of_mem_drop hx)⟩) hone hl
  rw [e2] at this
  simpa [Nat.add_assoc] using this
theorem SatF.freshG {cs : List V} {us : List Value} {vc : List Value} {v : V} {val : Value} {w' : World} {cap : Nat}
    (h : SatF Γ Z B ρ F N st (cs ++ ps) (us ++ vc) X tm w) (hl : us.length = cs.length)
    (hg : Grow w w') (hsame : ∀ k, k < w.heap.size → w'.heap[k]? = w.heap[k]?) (hrange : w'.rangeAt w.heap.size 0 us) (hblk : Blk w' w.heap.size cap)
    (hv : ∀ G, RelVs Z B w' ρ cs us G → RelVs Z B w' ρ [v] [val] (w.heap.size :: G)) (hn : V.inNs N cs → v.inN N) :
    ∃ F', SatF Γ Z B ρ F' N st (v :: ps) (val :: vc) X tm w' := by
  obtain ⟨va, vm, vc', Fa, Fm, Fc, e1, e2, q1, q2, q3, n1, n2, n3⟩ := SatF.parts (pre := []) (mid := cs) (ps := ps) (by simpa using h)
  cases q1
  have e1' := List.append_inj (by simpa using e1) (by rw [hl, q2.length])
  obtain ⟨rfl, rfl⟩ := e1'
  have hnd := h.nodup none
  have hlt : ∀ k ∈ F none, k < w.heap.size := fun k hk => (h.own none k hk).2.1
  rw [e2] at hnd hlt
  have mono : ∀ {ds : List V} {vs : List Value} {G : List Nat}, RelVs Z B w ρ ds vs G → V.inNs N ds → (∀ x ∈ G, x < w.heap.size) → RelVs Z B w' ρ ds vs G := by
    intro ds vs G h1 h2 h3
    exact h1.mono h2 (fun _ _ => rfl) (fun x hx => hsame x (h3 x hx)) (fun x hx => hsame x (h.zone x (h.zB x hx))) (fun x hx => hsame x (h.zone x hx)) (fun _ x => x) (fun _ x => x) hg.blk
  have hnew := hv Fm (mono q2 n2 (fun x hx => hlt x (by simp [hx])))
  refine ⟨fun x => if x = none then ((w.heap.size :: Fm) ++ Fc) ++ X else F x, ?_⟩
  refine h.step [none] (by simp) hg (fun k hk _ => hsame k hk) (fun _ _ => rfl) ?_ (fun _ _ hs => ⟨hs, rfl⟩) (by simp) (fun _ x => x) (fun _ _ => rfl)
    (fun _ x => x) (fun _ x => x) h.zB (fun _ x => .inl x) (fun _ x => .inl x) (by simp) (by simp) ?_ (by simp) ?_ ?_
  · intro x hx
    simp only [List.mem_cons, List.not_mem_nil, or_false] at hx
    simp [hx]
  · intro _
    refine ⟨⟨(w.heap.size :: Fm) ++ Fc, by simp, ?_⟩, hn n2, n3⟩
    exact RelVs.append hnew (mono q3 n3 (fun x hx => hlt x (by simp [hx])))
  · simp only [List.flatMap_cons, List.flatMap_nil, List.append_nil, if_true, List.cons_append]
    rw [List.nodup_cons]
    refine ⟨fun hm => ?_, by simpa using hnd⟩
    have := hlt w.heap.size (by simpa using hm)
    omega
  · intro k hk
    simp only [List.flatMap_cons, List.flatMap_nil, List.append_nil, if_true, List.cons_append, List.mem_cons] at hk
    have hB : ∀ k, B k → k < w.heap.size := h.zone
    rcases hk with rfl | hk
    · exact ⟨.inr (Nat.le_refl _), hblk.lt, fun hb => absurd (hB _ hb) (by omega)⟩
    · have hm : k ∈ F none := by rw [e2]; simpa using hk
      exact ⟨.inl (by simpa using hm), Nat.lt_of_lt_of_le (h.own none k hm).2.1 hg.size, (h.own none k hm).1⟩
theorem SatF.fresh {cs : List V} {us : List Value} {vc : List Value} {rest : Array Value} {ty : TypeId} {v : V} {val : Value}
    (h : SatF Γ Z B ρ F N st (cs ++ ps) (us ++ vc) X tm w) (hl : us.length = cs.length)
    (hv : ∀ w' G, Grow w w' → RelVs Z B w' ρ cs us G → w'.rangeAt w.heap.size 0 us → Blk w' w.heap.size (us.length + rest.size) → RelVs Z B w' ρ [v] [val] (w.heap.size :: G)) (hn : V.inNs N cs → v.inN N) :
    ∃ F', SatF Γ Z B ρ F' N st (v :: ps) (val :: vc) X tm (w.alloc (.cells (us.toArray ++ rest) ty)) := by
  have hg := grow_alloc w (.cells (us.toArray ++ rest) ty)
  have hblk : Blk (w.alloc (.cells (us.toArray ++ rest) ty)) w.heap.size (us.length + rest.size) := by
    have := blk_alloc w (us.toArray ++ rest) ty
    simpa using this
  exact h.freshG hl hg (fun k hk => alloc_heap hk) (rangeAt_alloc_new w us rest ty) hblk (fun G hG => hv _ G hg hG (rangeAt_alloc_new w us rest ty) hblk) hn
end
def Nx (nm : Nat) (N : Nat → Prop) : Nat → Prop := fun r => N r ∨ (nm ≤ r ∧ r < nm + 64)
def OpOk (P : Program) (o : Oper) (nm : Nat) (st : St) (v : V) (st' : St) : Prop :=
  ∀ (Γ : Ctx) (N : Nat → Prop) (a : Act) (w : World), SatP Γ N st [] [] a.tmps w → (∀ r, nm ≤ r → r < nm + 64 → ¬ N r) →
    ∀ (K : Act → World → Prop) (Q : Exit → Act → World → Prop), (∀ val w', SatP Γ (Nx nm N) st' [v] [val] a.tmps w' → K (a.put o.dst val) w') → o.wp P a w K Q
theorem wp_value {P : Program} {o : Oper} {a : Act} {w w' : World} {val : Value} {K : Act → World → Prop} {Q : Exit → Act → World → Prop}
    (h : (execOp a.eval o).run P w = .ok (.value val) w') (hk : K (a.put o.dst val) w') : o.wp P a w K Q := by
  unfold Oper.wp; rw [h]; exact hk
theorem wp_skip' {P : Program} {o : Oper} {a : Act} {w w' : World} {K : Act → World → Prop} {Q : Exit → Act → World → Prop}
    (h : (execOp a.eval o).run P w = .ok .skip w') (hk : K (a.put o.dst undef) w') : o.wp P a w K Q := by
  unfold Oper.wp; rw [h]; exact hk
theorem ofO_run {α : Type} {x : Option α} {st st' : St} {a : α} {R W : List Res} (h : Run (Prog.ofO x) st a st' R W) : x = some a ∧ st' = st := by
  cases x with
  | none => simp only [Prog.ofO] at h; cases h
  | some y => simp only [Prog.ofO] at h; cases h; exact ⟨rfl, rfl⟩
theorem tyOf_spec {P : Program} {t : TypeId} {ty : Ty} (h : tyOf P t = some ty) :
    ∃ d i z, P.underlying t = some d ∧ P.info? t = some i ∧ i.zero = some z ∧ ty = { k := TyK.of d, size := i.size, bytes := i.bytes, zero := z.cells.toList } := by
  unfold tyOf at h
  split at h
  · rename_i d i h1 h2
    split at h
    · rename_i z h3
      exact ⟨d, i, z, h1, h2, h3, (Option.some.inj h).symm⟩
    · cases h
  · cases h
theorem ofK_slice {d : TypeDesc} {e : TypeId} (h : TyK.of d = .slice e) : d = .slice e := by cases d <;> simp_all [TyK.of]
theorem ofK_str {d : TypeDesc} (h : TyK.of d = .str) : d = .string := by cases d <;> simp_all [TyK.of]
theorem ofK_int {d : TypeDesc} {k : IntKind} (h : TyK.of d = .int k) : d = .int k := by cases d <;> simp_all [TyK.of]
theorem ofK_bool {d : TypeDesc} (h : TyK.of d = .bool) : d = .bool := by cases d <;> simp_all [TyK.of]
theorem ofK_array {d : TypeDesc} {n : Nat} {e : TypeId} (h : TyK.of d = .array n e) : d = .array n e := by cases d <;> simp_all [TyK.of]
theorem ofK_struct {d : TypeDesc} {fs : List (Nat × TypeId)} (h : TyK.of d = .struct fs) : ∃ f, d = .struct f ∧ fs = f.toList.map fun f => (f.offset, f.type) := by
  cases d <;> simp_all [TyK.of]
theorem ofK_agg {d : TypeDesc} : (TyK.of d).agg = d.isRow := by cases d <;> rfl
section
variable {P : Program} {Γ : Ctx} {Z B : Zone} {ρ : Names} {F : Ix → List Nat} {N : Nat → Prop} {st st' : St} {ps : List V} {vals : List Value} {X : List Nat} {tm : Array Value} {w : World}
theorem SatF.satP (h : SatF Γ Z B ρ F N st ps vals [] tm w) : SatP Γ N st ps vals tm w := ⟨Z, B, ρ, F, h⟩
theorem SatF.toNx {nm : Nat} (h : SatF Γ Z B ρ F N st ps vals X tm w) : SatF Γ Z B ρ F (Nx nm N) st ps vals X tm w := h.weakN (fun _ x => .inl x)
theorem fetchN_sound {a : Act} {x : Operand} {v : V} {nm : Nat} {R W : List Res} (hr : Run (fetchN nm x) st v st' R W) (hnm : ¬ N nm) (ha : a.tmps = tm) (h : SatF Γ Z B ρ F N st ps vals X tm w) :
    ∃ ρ' F', SatF Γ Z B ρ' F' (fun r => N r ∨ r = nm) st' (v :: ps) (a.eval x :: vals) X tm w := by
  obtain ⟨v1, st1, R1, W1, R2, W2, r1, r2, -, -⟩ := hr.bind_inv
  obtain ⟨F1, h1⟩ := fetch_sound r1 ha h
  obtain ⟨ρ', F', _, h2⟩ := name_sound (pre := []) r2 hnm h1
  exact ⟨ρ', F', h2⟩
theorem Nx_one {nm : Nat} : ∀ r, (N r ∨ r = nm) → Nx nm N r := fun r h => h.elim .inl (fun e => .inr (by omega))
theorem SatF.head {v : V} {val : Value} (h : SatF Γ Z B ρ F N st (v :: ps) (val :: vals) X tm w) : ∃ G, RelV Z B w ρ v val G := by
  obtain ⟨⟨Fp, p1, p2⟩, p3⟩ := h.pend
  obtain ⟨v', vs', Fx, G, e, rfl, q1, q2⟩ := p2.cons_split
  cases e
  exact ⟨_, q1⟩
theorem SatF.turn {v v' : V} {val val' : Value} (h : SatF Γ Z B ρ F N st (v :: ps) (val :: vals) X tm w)
    (hv : ∀ G, RelV Z B w ρ v val G → ∃ G', RelV Z B w ρ v' val' G' ∧ (∀ x, x ∈ G' → x ∈ G) ∧ (∀ x, G'.count x ≤ G.count x)) (hn : v.inN N → v'.inN N) :
    ∃ F', SatF Γ Z B ρ F' N st (v' :: ps) (val' :: vals) X tm w := by
  obtain ⟨⟨Fp, p1, p2⟩, p3⟩ := h.pend
  obtain ⟨v0, vs', Fx, G, e, rfl, q1, q2⟩ := p2.cons_split
  cases e
  obtain ⟨G', k1, k2, k3⟩ := hv _ q1
  obtain ⟨F', _, h'⟩ := h.rehand (ps' := v' :: ps) (vals' := val' :: vals) (X' := X) (Fp' := G' ++ G) (RelVs.append k1 q2) ⟨hn p3.1, p3.2⟩
    (by rw [p1]; intro hh; rw [List.nodup_iff_count] at hh ⊢; intro t; have hh := hh t; have := k3 t; simp only [List.count_append, List.count_cons, List.count_nil] at hh ⊢; omega)
    (by rw [p1]; intro x hx; simp only [List.mem_append, List.mem_cons] at hx ⊢; have := k2 x; grind)
  exact ⟨F', h'⟩
theorem SatF.plain {v : V} {val val' : Value} (h : SatF Γ Z B ρ F N st (v :: ps) (val :: vals) X tm w) (h1 : val'.oneCell' = true) :
    ∃ F', SatF Γ Z B ρ F' N st (.d (.p val') :: ps) (val' :: vals) X tm w :=
  h.turn (fun G _ => ⟨[], .d (.p h1 .nil) .nil, by simp, by simp⟩) (fun _ => trivial)
theorem rel_p {v val : Value} {G : List Nat} (h : RelV Z B w ρ (.d (.p v)) val G) : val = v := by
  cases h with
  | d h1 h2 => cases h2; cases h1 with | p _ h3 => cases h3; rfl
theorem move_ok {o : Oper} {nm : Nat} {v : V} {R W : List Res} {x : Operand} (ho : o.op = .move x ∨ o.op = .assign x) (hr : Run (fetchN nm x) st v st' R W) : OpOk P o nm st v st' := by
  rintro Γ N a w ⟨Z, B, ρ, F, h⟩ hf K Q hk
  obtain ⟨ρ', F', h1⟩ := fetchN_sound hr (hf nm (by omega) (by omega)) rfl h
  refine wp_value (w' := w) (val := a.eval x) ?_ (hk _ _ (h1.weakN Nx_one).satP)
  rcases ho with ho | ho <;> simp [execOp, ho]
theorem pick_ok {o : Oper} {nm : Nat} {v : V} {R W : List Res} {c x y : Operand} (ho : o.op = .pick c x y)
    (hr : Run ((fetchP c).bind fun v => match v with
    | .d (.p (.bool true)) => fetchP x
    | .d (.p (.bool false)) => fetchP y
    | _ => .fail) st v st' R W) : OpOk P o nm st v st' := by
  rintro Γ N a w ⟨Z, B, ρ, F, h⟩ hf K Q hk
  obtain ⟨v1, st1, R1, W1, R2, W2, r1, r2, -, -⟩ := hr.bind_inv
  obtain ⟨F1, h1⟩ := fetch_sound r1 (rfl : a.tmps = a.tmps) h
  obtain ⟨G, g⟩ := h1.head
  split at r2
  · obtain ⟨F2, h2⟩ := h1.drop
    obtain ⟨F3, h3⟩ := fetch_sound r2 (rfl : a.tmps = a.tmps) h2
    refine wp_value (w' := w) (val := a.eval x) ?_ (hk _ _ h3.toNx.satP)
    have := rel_p g
    simp [execOp, ho, this, asBool]
  · obtain ⟨F2, h2⟩ := h1.drop
    obtain ⟨F3, h3⟩ := fetch_sound r2 (rfl : a.tmps = a.tmps) h2
    refine wp_value (w' := w) (val := a.eval y) ?_ (hk _ _ h3.toNx.satP)
    have := rel_p g
    simp [execOp, ho, this, asBool]
  · cases r2
theorem run_intBin (op : BinOp) (t : TypeId) (k : IntKind) (a b : Int) (v : Value) (hs : BinOp.isShift op = false) (h : intBin op k a b = some v) : (binOp op t (.int k a) (.int k b)).run P w = .ok v w := by
  cases op <;> simp [BinOp.isShift] at hs <;> simp [intBin] at h <;>
    first
      | (subst h; simp [binOp, Op.intArith, Op.intBits, Op.intCmp]; done)
      | (obtain ⟨h1, rfl⟩ := h; simp [binOp, Op.intDiv, h1])
theorem run_shiftBin (op : BinOp) (t : TypeId) (k k' : IntKind) (a b : Int) (v : Value) (hs : BinOp.isShift op = true) (h : shiftBin op k a b = some v) : (binOp op t (.int k a) (.int k' b)).run P w = .ok v w := by
  cases op <;> simp [BinOp.isShift] at hs <;> simp [shiftBin] at h <;> obtain ⟨h1, rfl⟩ := h <;> simp [binOp, Op.shift, Int.not_lt.2 h1]
theorem run_strBin (op : BinOp) (t : TypeId) (a b : ByteArray) (v : Value) (h : strBin op a b = some v) : (binOp op t (.string a) (.string b)).run P w = .ok v w := by
  cases op <;> simp [strBin] at h <;>
    first
      | (subst h; simp [binOp, Op.stringOp]; done)
      | (obtain ⟨h1, rfl⟩ := h
         have h2 : ¬ ((a.size : Int) + (b.size : Int) > 9223372036854775807) := by omega
         have h3 : IntKind.i64.max = 9223372036854775807 := by decide
         simp [binOp, Op.stringOp, h3]
         omega)
theorem eqGuard_plain (op : BinOp) (t : TypeId) (x y : Operand) (a b : Value) (h : ∀ cs cs', a = .agg cs → b = .agg cs' → False) (h2 : a = .nilIface → False) :
    (eqGuard op t x y a b).run P w = .ok () w := by
  unfold eqGuard
  cases op <;> simp <;> cases a <;> cases b <;> simp_all
theorem cellsEq_run {d : Nat} : ∀ (fs : List Field) (ks : List Nat) (k : Nat) (as bs : List V) (xs ys : Array Value) (r : Bool) (Ga Gb : List Nat),
    flatFields P fs k = some ks →
    (∃ pa pb xa xb, xs.toList = pa ++ xa ∧ ys.toList = pb ++ xb ∧ pa.length = k ∧ pb.length = k ∧ RelVs Z B w ρ as xa Ga ∧ RelVs Z B w ρ bs xb Gb) →
    cellsEq ks as bs = some r → (Op.eqFields (d + 1) xs ys fs).run P w = .ok r w
  | [], ks, k, as, bs, xs, ys, r, Ga, Gb, h1, h3, h4 => by
    simp only [flatFields, Option.some.injEq] at h1
    subst h1
    cases as <;> cases bs <;> simp [cellsEq] at h4
    subst h4
    simp [Op.eqFields]
  | f :: fs, ks, k, as, bs, xs, ys, r, Ga, Gb, h1, h3, h4 => by
    obtain ⟨pa, pb, xa, xb, e1, e2, e3, e4, g1, g2⟩ := h3
    simp only [flatFields] at h1
    split at h1
    · rename_i hn
      simp only [Bool.and_eq_true, bne_iff_ne, ne_eq, beq_iff_eq] at hn
      obtain ⟨n1, n2⟩ := hn
      simp only [Option.bind_eq_some_iff, Option.map_eq_some_iff] at h1
      obtain ⟨kk, n3, ks', n4, rfl⟩ := h1
      cases as with
      | nil => simp [cellsEq] at h4
      | cons va as =>
        cases bs with
        | nil => simp [cellsEq] at h4
        | cons vb bs =>
          obtain ⟨x, xa', Gx, Gx', rfl, rfl, q1, q2⟩ := g1.cons_split
          obtain ⟨y, xb', Gy, Gy', rfl, rfl, q3, q4⟩ := g2.cons_split
          simp only [cellsEq, Option.bind_eq_some_iff] at h4
          obtain ⟨c, c1, s, s1, c2⟩ := h4
          simp only [Option.some.injEq] at c2
          have hx : xs[k]? = some x := by
            rw [← Array.getElem?_toList, e1, List.getElem?_append_right (by omega), e3]; simp
          have hy : ys[k]? = some y := by
            rw [← Array.getElem?_toList, e2, List.getElem?_append_right (by omega), e4]; simp
          have ih := cellsEq_run (d := d) fs ks' (k + 1) as bs xs ys s Gx' Gy' n4
            ⟨pa ++ [x], pb ++ [y], xa', xb', by simp [e1], by simp [e2], by simp [e3], by simp [e4], q2, q4⟩ s1
          have pt : ∀ (zs : Array Value) (z : Value) (u : TypeDesc), P.underlying f.type = some u → u.isRow = false → zs[k]? = some z → (part f.type zs f.offset).run P w = .ok z w := by
            intro zs z u hu hrow hz
            have : (isAgg f.type).run P w = .ok false w := by
              unfold isAgg
              rw [Sem.run_bind, run_underlying hu w]
              cases u <;> simp_all
            simp [part, Sem.run_bind, this, n2, hz]
          have eqv : (Op.equalIn (d + 1) f.type x y).run P w = .ok c w ∧ (part f.type xs f.offset).run P w = .ok x w ∧ (part f.type ys f.offset).run P w = .ok y w := by
            unfold kindOf at n3
            unfold cellEq at c1
            split at c1
            · rename_i k1 a1 k2 b1
              have ex := rel_p q1; have ey := rel_p q3
              subst ex; subst ey
              split at c1
              · rename_i e; subst e
                simp only [Option.some.injEq] at c1; subst c1
                split at n3 <;> simp at n3
                rename_i kx hu
                exact ⟨run_equalIn_int w d f.type k1 kx a1 b1 hu, pt xs _ _ hu rfl hx, pt ys _ _ hu rfl hy⟩
              · cases c1
            · have ex := rel_p q1; have ey := rel_p q3
              subst ex; subst ey
              simp only [Option.some.injEq] at c1; subst c1
              split at n3 <;> simp at n3
              rename_i hu
              exact ⟨run_equalIn_bool' w d f.type _ _ hu, pt xs _ _ hu rfl hx, pt ys _ _ hu rfl hy⟩
            · have ex := rel_p q1; have ey := rel_p q3
              subst ex; subst ey
              simp only [Option.some.injEq] at c1; subst c1
              split at n3 <;> simp at n3
              rename_i hu
              refine ⟨?_, pt xs _ _ hu rfl hx, pt ys _ _ hu rfl hy⟩
              rw [run_equalIn_string w d f.type _ _ hu, beq_toListBytes]
            · cases c1
          rw [Op.eqFields, if_pos n1]
          simp only [Sem.run_bind, eqv.2.1, eqv.2.2, eqv.1, Result.andThen_ok]
          cases c
          · simp at c2; subst c2; simp
          · simp at c2; subst c2; simpa using ih
    · cases h1
theorem run_eqAgg {t : TypeId} {as bs : List V} {xs ys : List Value} {Ga Gb : List Nat} {ks : List Nat} {r : Bool} (hk : flatK P t = some ks) (hr : cellsEq ks as bs = some r)
    (ha : RelVs Z B w ρ as xs Ga) (hb : RelVs Z B w ρ bs ys Gb) :
    P.eqGuardType P.depth t = false ∧ (Op.equalIn 10000 t (.agg xs.toArray) (.agg ys.toArray)).run P w = .ok r w := by
  unfold flatK at hk
  split at hk
  · rename_i fs hu
    split at hk
    · rename_i hc
      simp only [Bool.and_eq_true, Bool.not_eq_true'] at hc
      have hf : P.fieldsOf t = fs := by simp [Program.fieldsOf, hu]
      refine ⟨hc.2, ?_⟩
      rw [run_equalIn_struct w 9999 t _ _ (by rw [hf]; exact hu) hc.1, hf]
      exact cellsEq_run (d := 9998) fs.toList ks 0 as bs xs.toArray ys.toArray r Ga Gb hk ⟨[], [], xs, ys, by simp, by simp, rfl, rfl, ha, hb⟩ hr
    · cases hk
  · cases hk
end
end Go.Proofs.YtdlaplgofgklnaaGreat.L