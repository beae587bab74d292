/- WHAT IS PROVED: rules for loops over lists of what is known; lists of states. Conditions: none. -/
import Derived.Test.YtdoboiiilcgbnaaL32
namespace Go.Proofs.Ytdoboiiilcgbnaa.L
set_option linter.unusedVariables false
set_option linter.unusedSimpArgs false

/-- A state's list tells no more than another's. -/
def SubL : SL → SL → Prop
  | [], _ => True
  | (r, some c) :: l, st => lk st r = some c ∧ SubL l st
  | (_, none) :: l, st => SubL l st

theorem SubL.sub : ∀ {l st : SL}, SubL l st → ∀ r c, lk l r = some c → lk st r = some c
  | [], st, _, r, c, h => by cases h
  | (r', some c') :: l, st, hs, r, c, h => by
    simp only [lk] at h
    split at h
    · rename_i e; subst e; cases h; exact hs.1
    · exact SubL.sub hs.2 r c h
  | (r', none) :: l, st, hs, r, c, h => by
    simp only [lk] at h
    split at h
    · cases h
    · exact SubL.sub (l := l) (by simpa only [SubL] using hs) r c h

def slNL (b : Nat) : SL → Prop
  | [] => True
  | (.s _, some c) :: l => c.inN (· < b) ∧ slNL b l
  | (.r i, some c) :: l => (i < b ∧ c.inN (· < b)) ∧ slNL b l
  | (_, none) :: l => slNL b l

theorem slNL.slN : ∀ {b : Nat} {l : SL}, slNL b l → slN b l
  | b, [], _, r, c, h => by cases h
  | b, (.s i, some c') :: l, hs, r, c, h => by
    simp only [lk] at h
    split at h
    · rename_i e; subst e; cases h; exact ⟨hs.1, fun _ e => by cases e⟩
    · exact slNL.slN hs.2 r c h
  | b, (.r i, some c') :: l, hs, r, c, h => by
    simp only [lk] at h
    split at h
    · rename_i e; subst e; cases h; exact ⟨hs.1.2, fun j e => by cases e; exact hs.1.1⟩
    · exact slNL.slN hs.2 r c h
  | b, (.s i, none) :: l, hs, r, c, h => by
    simp only [lk] at h
    split at h
    · cases h
    · exact slNL.slN (l := l) (by simpa [slNL] using hs) r c h
  | b, (.r i, none) :: l, hs, r, c, h => by
    simp only [lk] at h
    split at h
    · cases h
    · exact slNL.slN (l := l) (by simpa [slNL] using hs) r c h

section
variable {P : Program} {T : Nat} {st : SL} {n : Nat} {Q : Exit → SL → Nat → Prop}

/-- What a loop's round must come to. -/
def NextA {ι : Type} (n N0 : Nat) (S : ι → SL) (μ : ι → Nat) (J : ι → Prop) (mx : Nat) : SL → Nat → Prop :=
  Hd n fun st2 n2 => ∃ m', m' < mx ∧ n2 = N0 ∧ ∃ y, J y ∧ μ y = m' ∧ st2 = S y

theorem next_to {ι : Type} {S : ι → SL} {μ : ι → Nat} {J : ι → Prop} {mx n' N0 : Nat} (y : ι) (hn : n ≤ N0) (hN : slNL N0 (S y)) (hs : SubL (S y) st) (hlt : μ y < mx) (hy : J y) : Gh st n' (NextA n N0 S μ J mx) :=
  gh_sub hs.sub ⟨N0, hn, hN.slN, μ y, hlt, rfl, y, hy, rfl, rfl⟩

theorem gh_to {n' : Nat} {st' : SL} (hs : SubL st' st) : Gh st n' fun st2 _ => st2 = st' := gh_sub hs.sub rfl

/-- A LOOP, with names below a bound at its head. -/
theorem aw_loopA {c : Code} {ι : Type} (N0 : Nat) (hn : n ≤ N0) (S : ι → SL) (μ : ι → Nat) (J : ι → Prop) (x0 : ι) (hN : slNL N0 (S x0)) (h0 : Gh st n fun st' _ => st' = S x0) (hx0 : J x0)
    (round : ∀ x, J x → aw P T c (S x) N0 (seqQ Q fun st1 n1 => Gh st1 n1 (NextA n N0 S μ J (μ x)))) : aw P T (.loop c) st n Q := by
  simp only [aw]
  refine ⟨fun m st' n' => n' = N0 ∧ ∃ x, J x ∧ μ x = m ∧ st' = S x, ⟨μ x0, gh_mono h0 (fun st' n' e => ⟨N0, hn, by subst e; exact hN.slN, rfl, x0, hx0, rfl, e⟩)⟩, ?_⟩
  rintro m st' n' ⟨rfl, x, hx, rfl, rfl⟩
  exact round x hx

end

/-- A nil is a row of nothing. -/
theorem gh_nilRow (t : Nat) (m : Md) (s : Nat) {st : SL} {n : Nat} {K : SL → Nat → Prop} (hst : lk st (.s t) = some (.v (.d (.p (.slice none 0 0)))))
    (h : Gh ((.s t, some (.v (.d (.row m s [])))) :: st) n K) : Gh st n K := by
  refine gh_trans fun Γ tm w hsat => ⟨_, n, Nat.le_refl _, h, ?_⟩
  obtain ⟨Z, B, ρ, F, hs⟩ := hsat
  obtain ⟨hlt, F1, h1⟩ := hs.take hst
  obtain ⟨F2, h2⟩ := h1.turn (v' := .d (.row m s [])) (val' := tm.getD t undef) (fun G g => by
    have e := rel_p g
    refine ⟨[], ?_, by simp, by simp⟩
    rw [e]
    exact .d (.none .nil) .nil) (fun _ => trivial)
  obtain ⟨F3, h3⟩ := h2.put hlt
  rw [setget] at h3
  have e : upd (upd (lk st) (.s t) none) (.s t) (some (.v (.d (.row m s [])))) = lk ((.s t, some (.v (.d (.row m s [])))) :: st) := by
    rw [lk_cons]
    funext x
    simp only [upd]
    split <;> rfl
  rw [e] at h3
  exact ⟨Z, B, ρ, F3, h3⟩

section
variable {P : Program} {T : Nat} {st : SL} {n : Nat} {ops : Array Oper} {os : List Oper} {K : SL → Nat → Prop}

theorem regW_guardN {dst : Option Tmp} {op : Op} {ty : TypeId} {pos : String} {af : Array Edge} {j d : Nat} {want b : Bool} (hd : dstOk T dst) (hj : (ops[j]?).bind (·.dst) = some d)
    (hs : lk st (.s d) = some (.v (.d (.p (.bool b)))))
    (h : b = want → regW P T ops ({ dst := dst, op := op, type := ty, pos := pos, after := af, guard := none } :: os) ((.s d, some (.v (.d (.p (.bool want))))) :: st) n K)
    (h2 : b = !want → regW P T ops os (putSt dst (.tup []) ((.s d, some (.v (.d (.p (.bool (!want)))))) :: st)) n K) :
    regW P T ops ({ dst := dst, op := op, type := ty, pos := pos, after := af, guard := some (j, want) } :: os) st n K := by
  simp only [regW, hj, hs]
  refine ⟨hd, fun e => ?_, h2⟩
  have := h e
  simp only [regW] at this
  exact this.2

theorem regW_yesN {dst : Option Tmp} {op : Op} {ty : TypeId} {pos : String} {af : Array Edge} {j d : Nat} {want : Bool} (hd : dstOk T dst) (hj : (ops[j]?).bind (·.dst) = some d)
    (hs : lk st (.s d) = some (.v (.d (.p (.bool want)))))
    (h : regW P T ops ({ dst := dst, op := op, type := ty, pos := pos, after := af, guard := none } :: os) ((.s d, some (.v (.d (.p (.bool want))))) :: st) n K) :
    regW P T ops ({ dst := dst, op := op, type := ty, pos := pos, after := af, guard := some (j, want) } :: os) st n K :=
  regW_guardN hd hj hs (fun _ => h) (fun e => by cases want <;> cases e)

end

theorem list_get {α : Type} {l : List α} {k : Nat} (h : k < l.length) : ∃ m, l[k]? = some m := ⟨l[k], List.getElem?_eq_getElem h⟩
theorem drop_cons {α : Type} {l : List α} {k : Nat} {m : α} (h : l[k]? = some m) : l.drop k = m :: l.drop (k + 1) := by
  obtain ⟨h1, h2⟩ := List.getElem?_eq_some_iff.1 h
  rw [List.drop_eq_getElem_cons h1, h2]
theorem drop_nil {α : Type} {l : List α} {k : Nat} (h : l.length ≤ k) : l.drop k = [] := List.drop_eq_nil_of_le h
theorem wrapS {k : Nat} (h : k < 4611686018427387904) : IntKind.i64.wrap ((k : Int) + 1) = ((k + 1 : Nat) : Int) := by
  rw [IntKind.wrap_i64]; omega
theorem gh_ret {P : Program} {rs : List ResultVar} {v : V} {objs' : List C} {st : SL} {n : Nat} (h : RetW P rs v objs' st n) : Gh st n (RetW P rs v objs') := gh_refl h
theorem retQ_ret {P : Program} {rs : List ResultVar} {v : V} {objs' : List C} {st : SL} {n : Nat} (h : Gh st n (RetW P rs v objs')) : retQ P rs v objs' .ret st n := h
theorem retQ_normal {P : Program} {rs : List ResultVar} {v : V} {objs' : List C} {st : SL} {n : Nat} (h : Gh st n (RetW P rs v objs')) : retQ P rs v objs' .normal st n := h

theorem wrapIn {x : Int} (h1 : -9223372036854775808 ≤ x) (h2 : x ≤ 9223372036854775807) : IntKind.i64.wrap x = x := by
  rw [IntKind.wrap_i64]; omega

end Go.Proofs.Ytdoboiiilcgbnaa.L
