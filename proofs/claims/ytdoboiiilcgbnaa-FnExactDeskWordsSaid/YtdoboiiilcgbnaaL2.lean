/- WHAT IS PROVED: the abstract operations as programs over resources; what such a program reads and writes; that it does the same wherever these are the same. Conditions: none. -/
import Derived.Test.YtdoboiiilcgbnaaL1
namespace Go.Proofs.Ytdoboiiilcgbnaa.L
set_option linter.unusedVariables false
set_option linter.unusedSimpArgs false

abbrev St := Res → Option C

/-! ### Types -/
inductive TyK where
  | int (k : IntKind)
  | bool
  | str
  | slice (e : TypeId)
  | ptr (e : TypeId)
  | struct (fs : List (Nat × TypeId))
  | array (n : Nat) (e : TypeId)
  | iface
  | other
  deriving DecidableEq

structure Ty where
  k : TyK
  size : Nat
  bytes : Nat
  zero : List Value

def TyK.agg : TyK → Bool
  | .struct _ => true
  | .array _ _ => true
  | _ => false

def TyK.of : TypeDesc → TyK
  | .int k => .int k
  | .bool => .bool
  | .string => .str
  | .slice e => .slice e
  | .pointer e => .ptr e
  | .struct fs => .struct (fs.toList.map fun f => (f.offset, f.type))
  | .array n e => .array n e
  | .interface _ => .iface
  | _ => .other

/-- The table of the types of a program, read off it. -/
def tyOf (P : Program) (t : TypeId) : Option Ty :=
  match P.underlying t, P.info? t with
  | some d, some i => match i.zero with
    | some z => some { k := TyK.of d, size := i.size, bytes := i.bytes, zero := z.cells.toList }
    | none => none
  | _, _ => none

/-! ### Programs over resources -/
inductive Prog (α : Type) : Type 1 where
  | ret (a : α) : Prog α
  | fail : Prog α
  | get (r : Res) (k : C → Prog α) : Prog α
  | set (r : Res) (c : Option C) (k : Prog α) : Prog α
  | req (φ : Prop) (k : Prog α) : Prog α
  | any {β : Type} (φ : β → Prop) (k : β → Prog α) : Prog α

def Prog.bind {α β : Type} : Prog α → (α → Prog β) → Prog β
  | .ret a, f => f a
  | .fail, _ => .fail
  | .get r k, f => .get r fun c => (k c).bind f
  | .set r c k, f => .set r c (k.bind f)
  | .req φ k, f => .req φ (k.bind f)
  | .any φ k, f => .any φ fun b => (k b).bind f

def Prog.geta (r : Res) : Prog C := .get r .ret
def Prog.seta (r : Res) (c : Option C) : Prog Unit := .set r c (.ret ())
def Prog.reqa (φ : Prop) : Prog Unit := .req φ (.ret ())

def upd (st : St) (r : Res) (c : Option C) : St := fun x => if x = r then c else st x

inductive Run {α : Type} : Prog α → St → α → St → List Res → List Res → Prop
  | ret {a : α} {st : St} : Run (.ret a) st a st [] []
  | get {r : Res} {k : C → Prog α} {st st' : St} {c : C} {a : α} {R W : List Res} : st r = some c → Run (k c) st a st' R W → Run (.get r k) st a st' (r :: R) W
  | set {r : Res} {k : Prog α} {st st' : St} {c : Option C} {a : α} {R W : List Res} : Run k (upd st r c) a st' R W → Run (.set r c k) st a st' R (r :: W)
  | req {φ : Prop} {k : Prog α} {st st' : St} {a : α} {R W : List Res} : φ → Run k st a st' R W → Run (.req φ k) st a st' R W
  | any {β : Type} {φ : β → Prop} {k : β → Prog α} {st st' : St} {a : α} {b : β} {R W : List Res} : φ b → Run (k b) st a st' R W → Run (.any φ k) st a st' R W

theorem Run.bind {α β : Type} {p : Prog α} {f : α → Prog β} {st st' st'' : St} {a : α} {b : β} {R W R' W' : List Res}
    (h : Run p st a st' R W) (k : Run (f a) st' b st'' R' W') : Run (p.bind f) st b st'' (R ++ R') (W ++ W') := by
  induction h with
  | ret => exact k
  | get h1 _ ih => exact .get h1 (ih k)
  | set _ ih => exact .set (ih k)
  | req h1 _ ih => exact .req h1 (ih k)
  | any h1 _ ih => exact .any h1 (ih k)

theorem Run.bind_inv {α β : Type} : ∀ {p : Prog α} {f : α → Prog β} {st st'' : St} {b : β} {R W : List Res},
    Run (p.bind f) st b st'' R W → ∃ a st' R1 W1 R2 W2, Run p st a st' R1 W1 ∧ Run (f a) st' b st'' R2 W2 ∧ R = R1 ++ R2 ∧ W = W1 ++ W2
  | .ret a, f, st, st'', b, R, W, h => ⟨a, st, [], [], R, W, .ret, h, rfl, rfl⟩
  | .fail, f, st, st'', b, R, W, h => by cases h
  | .get r k, f, st, st'', b, R, W, h => by
    cases h with
    | get h1 h2 =>
      obtain ⟨a, st', R1, W1, R2, W2, h3, h4, rfl, rfl⟩ := Run.bind_inv (p := k _) h2
      exact ⟨a, st', r :: R1, W1, R2, W2, .get h1 h3, h4, rfl, rfl⟩
  | .set r c k, f, st, st'', b, R, W, h => by
    cases h with
    | set h2 =>
      obtain ⟨a, st', R1, W1, R2, W2, h3, h4, rfl, rfl⟩ := Run.bind_inv (p := k) h2
      exact ⟨a, st', R1, r :: W1, R2, W2, .set h3, h4, rfl, rfl⟩
  | .req φ k, f, st, st'', b, R, W, h => by
    cases h with
    | req h1 h2 =>
      obtain ⟨a, st', R1, W1, R2, W2, h3, h4, rfl, rfl⟩ := Run.bind_inv (p := k) h2
      exact ⟨a, st', R1, W1, R2, W2, .req h1 h3, h4, rfl, rfl⟩
  | .any φ k, f, st, st'', b, R, W, h => by
    cases h with
    | any h1 h2 =>
      obtain ⟨a, st', R1, W1, R2, W2, h3, h4, rfl, rfl⟩ := Run.bind_inv (p := k _) h2
      exact ⟨a, st', R1, W1, R2, W2, .any h1 h3, h4, rfl, rfl⟩

/-- What is not written is as it was. -/
theorem Run.frame {α : Type} {p : Prog α} {st st' : St} {a : α} {R W : List Res} (h : Run p st a st' R W) : ∀ x, x ∉ W → st' x = st x := by
  induction h with
  | ret => intro x _; rfl
  | get _ _ ih => exact ih
  | set _ ih =>
    intro x hx
    have := ih x (fun hh => hx (by simp [hh]))
    rw [this]
    simp only [upd]
    rw [if_neg (fun e => hx (by simp [e]))]
  | req _ _ ih => exact ih
  | any _ _ ih => exact ih

/-- Wherever what it reads and writes is the same, it does the same. -/
theorem Run.local {α : Type} {p : Prog α} {st st' : St} {a : α} {R W : List Res} (h : Run p st a st' R W) :
    ∀ st2 : St, (∀ x, x ∈ R ∨ x ∈ W → st2 x = st x) → ∃ st2', Run p st2 a st2' R W ∧ ∀ x, x ∈ W → st2' x = st' x := by
  induction h with
  | ret => intro st2 _; exact ⟨st2, .ret, fun x hx => by cases hx⟩
  | @get r k st st' c a R W h1 _ ih =>
    intro st2 h2
    obtain ⟨st2', h3, h4⟩ := ih st2 (fun x hx => h2 x (by rcases hx with h | h <;> simp [h]))
    exact ⟨st2', .get ((h2 r (by simp)).trans h1) h3, h4⟩
  | @set r k st st' c a R W h1 ih =>
    intro st2 h2
    obtain ⟨st2', h3, h4⟩ := ih (upd st2 r c) (fun x hx => by
      simp only [upd]
      by_cases e : x = r
      · simp [e]
      · rw [if_neg e, if_neg e]
        exact h2 x (by rcases hx with h | h <;> simp [h]))
    refine ⟨st2', .set h3, fun x hx => ?_⟩
    by_cases hw : x ∈ W
    · exact h4 x hw
    · have hr : x = r := by
        cases hx with
        | head => rfl
        | tail _ h => exact absurd h hw
      rw [h3.frame x hw, h1.frame x hw, hr]
      simp [upd]
  | req h1 _ ih =>
    intro st2 h2
    obtain ⟨st2', h3, h4⟩ := ih st2 h2
    exact ⟨st2', .req h1 h3, h4⟩
  | any h1 _ ih =>
    intro st2 h2
    obtain ⟨st2', h3, h4⟩ := ih st2 h2
    exact ⟨st2', .any h1 h3, h4⟩

/-! ### The same over lists, as a condition on what is behind -/
abbrev SL := List (Res × Option C)

def lk : SL → Res → Option C
  | [], _ => none
  | (x, c) :: l, r => if r = x then c else lk l r

def Prog.wp {α : Type} : Prog α → SL → List Res → List Res → (α → SL → List Res → List Res → Prop) → Prop
  | .ret a, st, R, W, K => K a st R W
  | .fail, _, _, _, _ => False
  | .get r k, st, R, W, K => match lk st r with
    | some c => (k c).wp st (r :: R) W K
    | none => False
  | .set r c k, st, R, W, K => k.wp ((r, c) :: st) R (r :: W) K
  | .req φ k, st, R, W, K => φ ∧ k.wp st R W K
  | .any φ k, st, R, W, K => ∃ b, φ b ∧ (k b).wp st R W K

theorem lk_cons (x : Res) (c : Option C) (l : SL) : lk ((x, c) :: l) = upd (lk l) x c := by
  funext r
  simp only [lk, upd]

theorem Prog.wp_run {α : Type} : ∀ {p : Prog α} {st : SL} {R W : List Res} {K : α → SL → List Res → List Res → Prop}, p.wp st R W K →
    ∃ a st' R' W' R2 W2, Run p (lk st) a (lk st') R' W' ∧ K a st' R2 W2 ∧ (∀ x, x ∈ R' ∨ x ∈ R → x ∈ R2) ∧ (∀ x, x ∈ W' ∨ x ∈ W → x ∈ W2)
  | .ret a, st, R, W, K, h => ⟨a, st, [], [], R, W, .ret, h, by simp, by simp⟩
  | .fail, _, _, _, _, h => h.elim
  | .get r k, st, R, W, K, h => by
    simp only [Prog.wp] at h
    split at h
    · rename_i c hc
      obtain ⟨a, st', R', W', R2, W2, h1, h2, h3, h4⟩ := Prog.wp_run h
      exact ⟨a, st', r :: R', W', R2, W2, .get hc h1, h2, fun x hx => h3 x (by simpa [or_assoc, or_comm, or_left_comm] using hx), h4⟩
    · exact h.elim
  | .set r c k, st, R, W, K, h => by
    simp only [Prog.wp] at h
    obtain ⟨a, st', R', W', R2, W2, h1, h2, h3, h4⟩ := Prog.wp_run h
    rw [lk_cons] at h1
    exact ⟨a, st', R', r :: W', R2, W2, .set h1, h2, h3, fun x hx => h4 x (by simpa [or_assoc, or_comm, or_left_comm] using hx)⟩
  | .req φ k, st, R, W, K, h => by
    simp only [Prog.wp] at h
    obtain ⟨a, st', R', W', R2, W2, h1, h2, h3, h4⟩ := Prog.wp_run h.2
    exact ⟨a, st', R', W', R2, W2, .req h.1 h1, h2, h3, h4⟩
  | .any φ k, st, R, W, K, h => by
    simp only [Prog.wp] at h
    obtain ⟨b, hb, h⟩ := h
    obtain ⟨a, st', R', W', R2, W2, h1, h2, h3, h4⟩ := Prog.wp_run h
    exact ⟨a, st', R', W', R2, W2, .any hb h1, h2, h3, h4⟩

theorem Prog.wp_bind {α β : Type} : ∀ (p : Prog α) (f : α → Prog β) (st : SL) (R W : List Res) (K : β → SL → List Res → List Res → Prop),
    (p.bind f).wp st R W K = p.wp st R W fun a st R W => (f a).wp st R W K
  | .ret a, f, st, R, W, K => rfl
  | .fail, f, st, R, W, K => rfl
  | .get r k, f, st, R, W, K => by
    simp only [Prog.bind, Prog.wp]
    split
    · exact Prog.wp_bind _ f st _ W K
    · rfl
  | .set r c k, f, st, R, W, K => by
    simp only [Prog.bind, Prog.wp]
    exact Prog.wp_bind k f _ R _ K
  | .req φ k, f, st, R, W, K => by
    simp only [Prog.bind, Prog.wp, Prog.wp_bind k f st R W K]
  | .any φ k, f, st, R, W, K => by
    simp only [Prog.bind, Prog.wp]
    exact propext ⟨fun ⟨b, hb, h⟩ => ⟨b, hb, (Prog.wp_bind (k b) f st R W K) ▸ h⟩, fun ⟨b, hb, h⟩ => ⟨b, hb, (Prog.wp_bind (k b) f st R W K).symm ▸ h⟩⟩

end Go.Proofs.Ytdoboiiilcgbnaa.L
