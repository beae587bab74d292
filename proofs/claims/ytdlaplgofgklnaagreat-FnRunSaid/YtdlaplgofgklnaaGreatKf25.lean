/- WHAT IS PROVED: an abstract walker over the model, what some functions of the program answer, and laws of these answers. Conditions: none. -/
import Derived.Test.YtdlaplgofgklnaaGreatKf24
namespace Go.Proofs.YtdlaplgofgklnaaGreat
open Go.Proofs Go.Proofs.YtdlaplgofgklnaaGreat.L
set_option linter.unusedVariables false
set_option linter.unusedSimpArgs false
set_option maxRecDepth 100000
def Ok {α : Type} (f : Nat → Option α) (P : α → Prop) : Prop := ∃ r, Ev f r ∧ P r
section
variable {α β γ : Type} {P : β → Prop} {Q : α → Prop}
theorem Ok.pure {v : β} (h : P v) : Ok (fun _ => some v) P := ⟨v, Ev.pure, h⟩
theorem Ok.mono {f : Nat → Option β} {R : β → Prop} (h : Ok f R) (hm : ∀ r, R r → P r) : Ok f P := by
  obtain ⟨r, h1, h2⟩ := h; exact ⟨r, h1, hm r h2⟩
theorem Ok.bind {f : Nat → Option α} {g : Nat → α → Option β} (h : Ok f Q) (h2 : ∀ a, Q a → Ok (fun k => g k a) P) : Ok (fun k => (f k).bind (g k)) P := by
  obtain ⟨a, e, q⟩ := h
  obtain ⟨b, e2, p⟩ := h2 a q
  exact ⟨b, Ev.bind e e2, p⟩
theorem Ok.cond {b : Bool} {f g : Nat → Option β} (h1 : b = true → Ok f P) (h2 : b = false → Ok g P) : Ok (fun k => cond b (f k) (g k)) P := by
  cases b with
  | true => exact h1 rfl
  | false => exact h2 rfl
theorem Ok.gd {p : Prop} [Decidable p] {f : Nat → Option β} (hp : p) (h : Ok f P) : Ok (fun k => L.gd p (f k)) P := by
  obtain ⟨r, e, q⟩ := h; exact ⟨r, Ev.gd hp e, q⟩
theorem Ok.idx {l : List α} {i : Int} {g : Nat → α → Option β} (h0 : 0 ≤ i) (h1 : i < (l.length : Int)) (h : ∀ m, l[i.toNat]? = some m → Ok (fun k => g k m) P) : Ok (fun k => (L.idx l i).bind (g k)) P := by
  obtain ⟨m, hm⟩ := list_get (show i.toNat < l.length by omega)
  obtain ⟨r, e, q⟩ := h m hm
  refine ⟨r, Ev.bind (a := m) (Ev.const ?_) e, q⟩
  rw [idx_of h0, hm]
theorem Ok.succ {f : Nat → Option β} (h : Ok (fun k => f (k + 1)) P) : Ok f P := by
  obtain ⟨r, e, q⟩ := h; exact ⟨r, Ev.succ e, q⟩
theorem Ok.shift {f : Nat → Option β} (h : Ok f P) : Ok (fun k => f (k + 1)) P := by
  obtain ⟨r, ⟨k0, e⟩, q⟩ := h; exact ⟨r, ⟨k0, fun k hk => e (k + 1) (by omega)⟩, q⟩
theorem Ok.const {x : Option β} {v : β} (h : x = some v) (hp : P v) : Ok (fun _ => x) P := ⟨v, Ev.const h, hp⟩
end
theorem u64_eq (x : Int) : IntKind.u64.wrap x = x % 18446744073709551616 := by
  have : (2 : Int) ^ 64 = 18446744073709551616 := by decide
  simp [IntKind.wrap, IntKind.bits, IntKind.signed, this]
theorem u64_pos (x : Int) : 0 ≤ IntKind.u64.wrap x := by rw [u64_eq]; omega
theorem u64_id {x : Int} (h0 : 0 ≤ x) (h1 : x < 18446744073709551616) : IntKind.u64.wrap x = x := by rw [u64_eq]; omega
structure SOk (s : Gl01Src) : Prop where
  at0 : 0 ≤ s.at0 ∧ s.at0 ≤ (s.b.length : Int)
  len : s.b.length ≤ 1048576
  size : 0 ≤ s.size ∧ s.size ≤ 12
theorem n_ok {s : Gl01Src} (hs : SOk s) (most : Int) (hm : most < 4611686018427387904) :
    Ok (fun k => spec_l01Src_n k s most) (fun r => SOk r.2 ∧ 0 ≤ r.1 ∧ (most ≤ 1 ∧ r.1 = 0 ∨ 1 < most ∧ r.1 < most)) := by
  unfold spec_l01Src_n
  refine Ok.cond (fun h => ?_) (fun h => ?_)
  · simp only [decide_eq_true_eq] at h
    exact Ok.pure ⟨hs, by simp, .inl ⟨h, rfl⟩⟩
  · simp only [decide_eq_false_iff_not] at h
    refine Ok.bind (Q := fun o => o.2.1 = most ∧ SOk o.1) ?_ ?_
    · unfold spec_l01Src_n.a1
      refine Ok.cond (fun h => ?_) (fun h => Ok.pure ⟨rfl, hs⟩)
      simp only [decide_eq_true_eq] at h
      have h0 := hs.at0
      have hl := hs.len
      refine Ok.idx h0.1 h (fun m hm => Ok.pure ⟨rfl, ?_, hl, hs.size⟩)
      show 0 ≤ IntKind.i64.wrap (s.at0 + 1) ∧ IntKind.i64.wrap (s.at0 + 1) ≤ (s.b.length : Int)
      rw [wrap_id (by omega) (by omega)]
      omega
    · rintro ⟨s', m, v⟩ ⟨h1, h2⟩
      have h1 : m = most := h1
      subst h1
      have e : IntKind.u64.wrap m = m := u64_id (by omega) (by omega)
      simp only [e]
      refine Ok.gd (by omega) (Ok.pure ⟨⟨h2.at0, h2.len, h2.size⟩, ?_⟩)
      generalize hz : IntKind.u64.wrap _ = z
      have hz0 : 0 ≤ z := hz ▸ u64_pos _
      have h3 : 0 ≤ z.tmod m := Int.tmod_nonneg m hz0
      have h4 : z.tmod m < m := Int.tmod_lt_of_pos z (by omega)
      simp only []
      rw [wrap_id (by omega) (by omega)]
      exact ⟨h3, .inr ⟨by omega, h4⟩⟩
theorem one_ok {s : Gl01Src} (hs : SOk s) (of_ : Int) (hm : of_ < 4611686018427387904) : Ok (fun k => spec_l01Src_one k s of_) (fun r => SOk r.2) := by
  unfold spec_l01Src_one
  exact Ok.bind (n_ok hs of_ hm) fun r h => Ok.pure h.1
theorem edge_ok {s : Gl01Src} (hs : SOk s) : Ok (fun k => spec_l01Src_edge k s) (fun r => SOk r.2 ∧ L.i64 r.1) := by
  unfold spec_l01Src_edge
  refine Ok.bind (n_ok hs 14 (by omega)) fun r h => Ok.idx h.2.1 (by simp; omega) fun m hm => Ok.pure ⟨h.1, ?_⟩
  have h0 := h.2.1
  have h1 : r.1.toNat < 14 := by omega
  generalize r.1.toNat = q at hm h1
  have : q = 0 ∨ q = 1 ∨ q = 2 ∨ q = 3 ∨ q = 4 ∨ q = 5 ∨ q = 6 ∨ q = 7 ∨ q = 8 ∨ q = 9 ∨ q = 10 ∨ q = 11 ∨ q = 12 ∨ q = 13 := by omega
  rcases this with rfl | rfl | rfl | rfl | rfl | rfl | rfl | rfl | rfl | rfl | rfl | rfl | rfl | rfl <;> (simp at hm; subst hm; simp [L.i64])
theorem num_ok {s : Gl01Src} (hs : SOk s) : Ok (fun k => spec_l01Src_l02Num k s) (fun r => SOk r.2) := by
  unfold spec_l01Src_l02Num
  refine Ok.bind (n_ok hs 5 (by omega)) fun r h => ?_
  refine Ok.cond (fun _ => Ok.bind (edge_ok h.1) fun r h => Ok.pure h.1) fun _ => ?_
  refine Ok.cond (fun _ => Ok.bind (n_ok h.1 9 (by omega)) fun r h => Ok.pure h.1) fun _ => ?_
  refine Ok.cond (fun _ => Ok.bind (n_ok h.1 10 (by omega)) fun r h => Ok.idx h.2.1 (by simp; omega) fun m hm => Ok.pure h.1) fun _ => ?_
  exact Ok.bind (n_ok h.1 1099511627776 (by omega)) fun r h => Ok.pure h.1
structure GOk (A : List Int) (g : Gl03Gen) : Prop where
  args : g.args = A
  src : SOk g.s
  loc : 0 ≤ g.locals ∧ g.locals ≤ 8
structure AOk (A : List Int) : Prop where
  len : 1 ≤ A.length ∧ A.length ≤ 3
  all : ∀ a ∈ A, 0 ≤ a ∧ a ≤ 2
theorem GOk.with_ {A : List Int} {g : Gl03Gen} (h : GOk A g) {s : Gl01Src} (hs : SOk s) : GOk A ⟨s, g.args, g.locals, g.code, g.most⟩ := ⟨h.args, hs, h.loc⟩
structure Gr (A : List Int) (g : Gl03Gen) (n : Nat) (r : Gl03Gen) : Prop where
  ok : GOk A r
  ge : g.code.length ≤ r.code.length
  le : r.code.length ≤ g.code.length + n
theorem put_ok {A : List Int} {g : Gl03Gen} (h : GOk A g) (hN : g.code.length < 1000000) (op a : Int) : Ok (fun _ => spec_l03Gen_put g op a) (fun r => GOk A r.2 ∧ r.1 = (g.code.length : Int) ∧ r.2.code.length = g.code.length + 1) := by
  unfold spec_l03Gen_put
  refine Ok.gd ⟨by omega, by omega⟩ (Ok.pure ⟨⟨h.args, h.src, h.loc⟩, ?_, by simp⟩)
  simp only [List.length_append, List.length_cons, List.length_nil]
  rw [wrap_id (by omega) (by omega)]
  omega
theorem local_ok {A : List Int} {g : Gl03Gen} (h : GOk A g) : Ok (fun k => spec_l03Gen_local k g) (fun r => GOk A r.2 ∧ r.2.code = g.code) := by
  unfold spec_l03Gen_local
  have := h.loc
  exact Ok.bind (n_ok h.src g.locals (by omega)) fun r h2 => Ok.pure ⟨h.with_ h2.1, rfl⟩
theorem here_ok {A : List Int} {g : Gl03Gen} (h : GOk A g) (p : Int) (h0 : 0 ≤ p) (h1 : p < (g.code.length : Int)) : Ok (fun _ => spec_l03Gen_here g p) (fun r => GOk A r ∧ r.code.length = g.code.length) := by
  unfold spec_l03Gen_here
  exact Ok.idx h0 h1 fun m hm => Ok.pure ⟨⟨h.args, h.src, h.loc⟩, by simp⟩
theorem expr1_ok {A : List Int} (hA : AOk A) (rec : Nat → Gl03Gen → Int → Option Gl03Gen) {g : Gl03Gen} (h : GOk A g) (hN : g.code.length < 1000000) (deep : Int) :
    Ok (fun k => spec_l03Gen_expr.a1 (rec k) k g deep) (fun o => (∃ r, o = .inl r ∧ Gr A g 1 r) ∨ (∃ r, o = .inr (r, deep) ∧ 0 < deep ∧ GOk A r ∧ r.code = g.code)) := by
  unfold spec_l03Gen_expr.a1
  refine Ok.bind (Q := fun o => GOk A o.1 ∧ o.1.code = g.code ∧ o.2.1 = deep ∧ (deep ≤ 0 → o.2.2 = true)) ?_ ?_
  · unfold spec_l03Gen_expr.a2
    refine Ok.cond (fun hd => Ok.pure ⟨h, rfl, rfl, fun _ => rfl⟩) fun hd => ?_
    simp only [decide_eq_false_iff_not] at hd
    refine Ok.bind (Q := fun r => r.2 = g) (Ok.const rfl rfl) ?_
    rintro ⟨b, g'⟩ rfl
    refine Ok.gd rfl (Ok.cond (fun _ => Ok.pure ⟨h, rfl, rfl, fun _ => rfl⟩) fun _ => ?_)
    exact Ok.bind (one_ok h.src 3 (by omega)) fun r h2 => Ok.pure ⟨h.with_ h2, rfl, rfl, fun e => absurd e hd⟩
  · rintro ⟨g1, d, b⟩ ⟨h1, h2, rfl, h3⟩
    refine Ok.gd (congrArg List.length (h1.args.trans h.args.symm)) (Ok.cond (fun hb => ?_) (fun hb => ?_))
    · refine Ok.bind (Q := fun o => (∃ r, o = .inl r ∧ Gr A g 1 r) ∨ (∃ r, o = .inr r ∧ GOk A r ∧ r.code = g.code)) ?_ ?_
      · unfold spec_l03Gen_expr.a3
        refine Ok.cond (fun hl => ?_) (fun hl => Ok.pure (.inr ⟨g1, rfl, h1, h2⟩))
        refine Ok.bind (one_ok h1.src 2 (by omega)) fun r h4 => ?_
        refine Ok.cond (fun _ => ?_) (fun _ => Ok.pure (.inr ⟨_, rfl, h1.with_ h4, h2⟩))
        refine Ok.bind (local_ok (h1.with_ h4)) ?_
        rintro ⟨z, g2⟩ ⟨h5, h6⟩
        have h6' : g2.code = g.code := h6.trans h2
        refine Ok.gd (by rw [h5.args, h1.args]) (Ok.bind (put_ok h5 (by rw [h6']; exact hN) 2 z) ?_)
        rintro ⟨q, g3⟩ ⟨h7, h8, h9⟩
        refine Ok.gd (by rw [h7.args, h1.args]) (Ok.pure (.inl ⟨g3, rfl, h7, ?_, ?_⟩))
        · rw [h6'] at h9; simp only [] at h9; omega
        · rw [h6'] at h9; simp only [] at h9; omega
      · rintro o (⟨r, rfl, h4⟩ | ⟨r, rfl, h4, h5⟩)
        · exact Ok.pure (.inl ⟨r, rfl, h4⟩)
        · refine Ok.gd (congrArg List.length (h4.args.trans h.args.symm)) ?_
          refine Ok.bind (n_ok h4.src 7 (by omega)) fun t6 h6 => Ok.bind (one_ok h6.1 8 (by omega)) fun t7 h7 => ?_
          refine Ok.cond (fun _ => ?_) (fun _ => ?_)
          · refine Ok.bind (num_ok h7) fun t8 h8 => Ok.bind (put_ok (h4.with_ h8) (by rw [h5]; exact hN) 1 t8.1) ?_
            rintro ⟨q, g3⟩ ⟨e1, e2, e3⟩
            simp only [h5] at e3
            exact Ok.gd (congrArg List.length (e1.args.trans h.args.symm)) (Ok.pure (.inl ⟨g3, rfl, e1, by omega, by omega⟩))
          · refine Ok.bind (put_ok (h4.with_ h7) (by rw [h5]; exact hN) 1 _) ?_
            rintro ⟨q, g3⟩ ⟨e1, e2, e3⟩
            simp only [h5] at e3
            exact Ok.gd (congrArg List.length (e1.args.trans h.args.symm)) (Ok.pure (.inl ⟨g3, rfl, e1, by omega, by omega⟩))
    · refine Ok.pure (.inr ⟨g1, rfl, ?_, h1, h2⟩)
      rcases Int.lt_or_le 0 d with hlt | hle
      · exact hlt
      · have h3' : b = true := h3 hle
        have hb' : b = false := hb
        rw [h3'] at hb'
        cases hb'
def eSize : Nat → Nat
  | 0 => 1
  | d + 1 => 2 * eSize d + 2
theorem eSize_pos : ∀ d, 1 ≤ eSize d
  | 0 => Nat.le_refl _
  | d + 1 => by simp only [eSize]; omega
theorem exprCall_ok {A : List Int} {E : Nat} {deep : Int} (f : Int) : ∀ (c : Nat) (hc : c ≤ 10) (R : Nat → Gl03Gen → Int → Option Gl03Gen)
    (hR : ∀ g, GOk A g → g.code.length + 3 * E < 900000 → Ok (fun k => R k g (IntKind.i64.wrap (deep - 2))) (Gr A g E)) (g : Gl03Gen) (h : GOk A g) (hN : g.code.length + c * E + 3 * E < 900000),
    Ok (fun k => spec_l03Gen_expr.l4 (R k) k g deep f (c : Int)) (fun r => Gr A g (c * E) r.1 ∧ r.2 = f)
  | 0, hc, R, hR, g, h, hN => by
    refine ⟨(g, f), ⟨1, fun k hk => ?_⟩, ⟨h, Nat.le_refl _, by simp⟩, rfl⟩
    obtain ⟨m, rfl⟩ : ∃ m, k = m + 1 := ⟨k - 1, by omega⟩
    simp only [spec_l03Gen_expr.l4]
    rfl
  | c + 1, hc, R, hR, g, h, hN => by
    have e : (c + 1) * E = c * E + E := by rw [Nat.add_mul, Nat.one_mul]
    refine Ok.succ ?_
    simp only [spec_l03Gen_expr.l4]
    refine Ok.cond (fun _ => ?_) (fun hc => by first | (simp at hc; done) | (simp at hc; omega))
    refine Ok.bind ((hR g h (by omega)).shift) fun g1 h1 => Ok.gd (by rw [h1.ok.args, h.args]) ?_
    have hw : IntKind.i64.wrap (((c + 1 : Nat) : Int) - 1) = (c : Int) := by rw [wrap_id (by omega) (by omega)]; omega
    rw [hw]
    have hge := h1.ge
    have hle := h1.le
    refine (exprCall_ok f c (by omega) (fun k => R (k + 1)) (fun g hg hl => (hR g hg hl).shift) g1 h1.ok (by omega)).mono ?_
    rintro ⟨r, f'⟩ ⟨h2, h3⟩
    exact ⟨⟨h2.ok, by have := h2.ge; simp only [] at this ⊢; omega, by have := h2.le; simp only [] at this ⊢; omega⟩, h3⟩
theorem put_then {β : Type} {P : β → Prop} {A : List Int} {g : Gl03Gen} {F : Nat → Int × Gl03Gen → Option β} (h : GOk A g) (hN : g.code.length < 1000000) {op a : Int}
    (hF : ∀ g2, GOk A g2 → g2.code.length = g.code.length + 1 → Ok (fun k => F k ((g.code.length : Int), g2)) P) : Ok (fun k => (spec_l03Gen_put g op a).bind (F k)) P := by
  refine Ok.bind (put_ok h hN op a) ?_
  rintro ⟨q, g2⟩ ⟨h1, h2, h3⟩
  have h2 : q = _ := h2
  subst h2
  exact hF g2 h1 h3
theorem put_fin {A : List Int} {g0 g : Gl03Gen} {n A0 : Nat} (h : GOk A g) (hN : g.code.length < 1000000) {op a : Int} (hA0 : A0 = A.length) (h1 : g0.code.length ≤ g.code.length) (h2 : g.code.length + 1 ≤ g0.code.length + n) :
    Ok (fun k => (spec_l03Gen_put g op a).bind fun t => L.gd (t.2.args.length = A0) (some t.2)) (Gr A g0 n) :=
  put_then h hN fun g2 e1 e2 => Ok.gd (by rw [hA0]; exact congrArg _ e1.args) (Ok.pure ⟨e1, by simp only []; omega, by simp only []; omega⟩)
theorem expr_ok {A : List Int} (hA : AOk A) : ∀ (d : Nat), d ≤ 20 → ∀ (g : Gl03Gen) (deep : Int), deep ≤ (d : Int) → GOk A g → g.code.length + 3 * eSize d < 900000 → Ok (fun k => spec_l03Gen_expr k g deep) (Gr A g (eSize d)) := by
  intro d
  induction d with
  | zero =>
    intro hd g deep hdeep h hN
    refine Ok.succ ?_
    simp only [spec_l03Gen_expr]
    refine Ok.bind (expr1_ok hA (fun k => spec_l03Gen_expr k) h (by omega) deep) ?_
    rintro o (⟨r, rfl, h1⟩ | ⟨r, rfl, hpos, -⟩)
    · exact Ok.gd (congrArg List.length (h1.ok.args.trans h.args.symm)) (Ok.pure h1)
    · omega
  | succ d ih =>
    intro hd g deep hdeep h hN
    have hE := eSize_pos d
    have hE1 : eSize (d + 1) = 2 * eSize d + 2 := rfl
    rw [hE1] at hN ⊢
    refine Ok.succ ?_
    simp only [spec_l03Gen_expr]
    refine Ok.bind (expr1_ok hA (fun k => spec_l03Gen_expr k) h (by omega) deep) ?_
    rintro o (⟨r, rfl, h1⟩ | ⟨r, rfl, hpos, h2, h3⟩)
    · exact Ok.gd (congrArg List.length (h1.ok.args.trans h.args.symm)) (Ok.pure ⟨h1.ok, h1.ge, by have := h1.le; omega⟩)
    have hlen : r.code.length = g.code.length := by rw [h3]
    have w1 : IntKind.i64.wrap (deep - 1) = deep - 1 := wrap_id (by omega) (by omega)
    have w2 : IntKind.i64.wrap (deep - 2) = deep - 2 := wrap_id (by omega) (by omega)
    have call : ∀ (dd : Int) (g' : Gl03Gen), dd ≤ (d : Int) → GOk A g' → g'.code.length + 3 * eSize d < 900000 → Ok (fun k => spec_l03Gen_expr k g' dd) (Gr A g' (eSize d)) := fun dd g' h1 h2 h3 => ih (by omega) g' dd h1 h2 h3
    simp only [Sum.elim_inr, w1, w2]
    refine Ok.gd (congrArg List.length (h2.args.trans h.args.symm)) ?_
    have rlen : r.args.length = g.args.length := congrArg List.length (h2.args.trans h.args.symm)
    refine Ok.bind (n_ok h2.src 10 (by omega)) fun t11 q11 => ?_
    have k0 : GOk A ⟨t11.2, r.args, r.locals, r.code, r.most⟩ := h2.with_ q11.1
    have aeq : g.args.length = A.length := congrArg _ h.args
    refine Ok.cond (fun _ => ?_) fun _ => ?_
    · refine Ok.bind (call _ _ (by omega) k0 (by simp only []; omega)) fun t12 q12 => Ok.gd (congrArg List.length (q12.ok.args.trans h.args.symm)) ?_
      have := q12.ge
      have := q12.le
      simp only [] at *
      refine Ok.bind (n_ok q12.ok.src 6 (by omega)) fun t13 q13 => put_fin (q12.ok.with_ q13.1) (by simp only []; omega) aeq (by simp only []; omega) (by simp only []; omega)
    refine Ok.cond (fun _ => ?_) fun _ => ?_
    · refine Ok.bind (call _ _ (by omega) k0 (by simp only []; omega)) fun t12 q12 => Ok.gd (congrArg List.length (q12.ok.args.trans h.args.symm)) ?_
      have := q12.ge
      have := q12.le
      simp only [] at *
      refine put_then q12.ok (by omega) fun g3 e1 e2 => Ok.gd (by rw [aeq]; exact congrArg _ e1.args) ?_
      refine Ok.bind (n_ok e1.src 14 (by omega)) fun t13 q13 => put_fin (e1.with_ q13.1) (by simp only []; omega) aeq (by simp only []; omega) (by simp only []; omega)
    refine Ok.cond (fun _ => ?_) fun _ => ?_
    · refine Ok.bind (n_ok q11.1 (g.args.length : Int) (by have := hA.len; omega)) fun t19 q19 => ?_
      have hb : t19.1 < (r.args.length : Int) := by have := hA.len; have := q19.2.2; omega
      refine Ok.idx q19.2.1 hb fun m hm => ?_
      have hmA := hA.all m (by have := List.mem_of_getElem? hm; rwa [h2.args] at this)
      obtain ⟨c, hc⟩ := Int.eq_ofNat_of_zero_le hmA.1
      subst hc
      have hcE : c * eSize d ≤ 2 * eSize d := Nat.mul_le_mul_right _ (by omega)
      refine Ok.bind (exprCall_ok (A := A) (E := eSize d) (deep := deep) t19.1 c (by omega) (fun k => spec_l03Gen_expr k) (fun g' hg hl => by rw [w2]; exact call _ _ (by omega) hg hl) _ (h2.with_ q19.1) (by simp only []; omega)) fun o4 q4 => ?_
      have h4 := q4.1.ge
      have h5 := q4.1.le
      simp only [] at h4 h5
      exact Ok.gd (congrArg List.length (q4.1.ok.args.trans h.args.symm)) (put_fin q4.1.ok (by omega) aeq (by omega) (by omega))
    refine Ok.cond (fun _ => ?_) fun _ => ?_
    · refine Ok.cond (fun _ => ?_) fun _ => ?_
      · refine Ok.bind (local_ok k0) ?_
        rintro ⟨z, g2⟩ ⟨e1, e2⟩
        have e2 : g2.code.length = r.code.length := congrArg _ e2
        refine Ok.gd (by rw [aeq]; exact congrArg _ e1.args) (put_then e1 (by (try dsimp only at *); omega) fun g3 e3 e4 => Ok.gd (by rw [aeq]; exact congrArg _ e3.args) ?_)
        refine Ok.bind (call _ _ (by (try dsimp only at *); omega) e3 (by (try dsimp only at *); omega)) fun t12 q12 => Ok.gd (congrArg List.length (q12.ok.args.trans h.args.symm)) ?_
        have := q12.ge
        have := q12.le
        (try dsimp only at *)
        exact put_fin q12.ok (by (try dsimp only at *); omega) aeq (by (try dsimp only at *); omega) (by (try dsimp only at *); omega)
      · refine Ok.bind (call _ _ (by (try dsimp only at *); omega) k0 (by simp only []; omega)) fun t12 q12 => Ok.gd (congrArg List.length (q12.ok.args.trans h.args.symm)) (Ok.pure ⟨q12.ok, ?_, ?_⟩)
        · have := q12.ge; simp only [] at this; omega
        · have := q12.le; simp only [] at this; omega
    refine Ok.cond (fun _ => ?_) fun _ => ?_
    · refine Ok.bind (n_ok q11.1 5 (by (try dsimp only at *); omega)) fun t28 q28 => ?_
      refine put_then (h2.with_ q28.1) (by simp only []; omega) fun g3 e3 e4 => Ok.gd (by rw [aeq]; exact congrArg _ e3.args) ?_
      simp only [] at e4
      exact put_fin e3 (by (try dsimp only at *); omega) aeq (by (try dsimp only at *); omega) (by (try dsimp only at *); omega)
    refine Ok.cond (fun _ => ?_) fun _ => ?_
    · refine Ok.bind (call _ _ (by (try dsimp only at *); omega) k0 (by simp only []; omega)) fun t12 q12 => Ok.gd (congrArg List.length (q12.ok.args.trans h.args.symm)) ?_
      have := q12.ge
      have := q12.le
      simp only [] at *
      exact put_fin q12.ok (by (try dsimp only at *); omega) aeq (by (try dsimp only at *); omega) (by (try dsimp only at *); omega)
    refine Ok.bind (call _ _ (by (try dsimp only at *); omega) k0 (by simp only []; omega)) fun t33 q33 => Ok.gd (congrArg List.length (q33.ok.args.trans h.args.symm)) ?_
    have a1 := q33.ge
    have a2 := q33.le
    simp only [] at a1 a2
    refine Ok.bind (call _ _ (by (try dsimp only at *); omega) q33.ok (by (try dsimp only at *); omega)) fun t34 q34 => Ok.gd (congrArg List.length (q34.ok.args.trans h.args.symm)) ?_
    have a3 := q34.ge
    have a4 := q34.le
    refine Ok.bind (n_ok q34.ok.src 14 (by (try dsimp only at *); omega)) fun t35 q35 => ?_
    have last : ∀ (s : Gl01Src), SOk s → ∀ op, Ok (fun k => (spec_l03Gen_put ⟨s, t34.args, t34.locals, t34.code, t34.most⟩ op 0).bind fun t => L.gd (t.2.args.length = g.args.length) (some t.2)) (Gr A g (2 * eSize d + 2)) := fun s hs op => put_fin (q34.ok.with_ hs) (by simp only []; omega) aeq (by simp only []; omega) (by simp only []; omega)
    refine Ok.cond (fun _ => ?_) fun _ => ?_
    · exact Ok.bind (one_ok q35.1 4 (by (try dsimp only at *); omega)) fun t36 q36 => Ok.cond (fun _ => last _ q36 _) fun _ => last _ q36 _
    refine Ok.cond (fun _ => ?_) fun _ => ?_
    · exact Ok.bind (one_ok q35.1 4 (by (try dsimp only at *); omega)) fun t36 q36 => Ok.cond (fun _ => last _ q36 _) fun _ => last _ q36 _
    exact last _ q35.1 _
def sSize : Nat → Nat
  | 0 => 60
  | d + 1 => 2 * sSize d + 60
theorem sSize_pos : ∀ d, 60 ≤ sSize d
  | 0 => Nat.le_refl _
  | d + 1 => by simp only [sSize]; omega
theorem ex_ok {A : List Int} (hA : AOk A) (d : Nat) (hd : d ≤ 3) (g : Gl03Gen) (h : GOk A g) (hN : g.code.length < 890000) : Ok (fun k => spec_l03Gen_expr k g (d : Int)) (Gr A g 22) := by
  have e : eSize d ≤ 22 := by
    have : d = 0 ∨ d = 1 ∨ d = 2 ∨ d = 3 := by omega
    rcases this with rfl | rfl | rfl | rfl <;> decide
  exact (expr_ok hA d (by omega) g d (Int.le_refl _) h (by omega)).mono fun r hr => ⟨hr.ok, hr.ge, by have := hr.le; omega⟩
theorem stmt_step {A : List Int} (hA : AOk A) {S : Nat} {g : Gl03Gen} {deep : Int} (call : 0 < deep → ∀ g', GOk A g' → g'.code.length + 6 * S < 700000 → Ok (fun k => spec_l03Gen_stmt k g' (IntKind.i64.wrap (deep - 1))) (Gr A g' S))
    (h : GOk A g) (hN : g.code.length + 12 * S + 360 < 700000) : Ok (fun k => spec_l03Gen_stmt (k + 1) g deep) (Gr A g (2 * S + 60)) := by
  have aeq : g.args.length = A.length := congrArg _ h.args
  simp only [spec_l03Gen_stmt]
  refine Ok.bind (Q := fun r => r.2 = g) (Ok.const rfl rfl) ?_
  rintro ⟨b, g'⟩ h0
  have h0 : g' = g := h0
  subst h0
  refine Ok.gd rfl (Ok.cond (fun _ => Ok.pure ⟨h, Nat.le_refl _, by simp⟩) fun _ => ?_)
  refine Ok.bind (n_ok h.src 8 (by omega)) fun t2 q2 => ?_
  have k0 : GOk A ⟨t2.2, g'.args, g'.locals, g'.code, g'.most⟩ := h.with_ q2.1
  have e2 : ∀ g1, GOk A g1 → g1.code.length < 890000 → Ok (fun k => spec_l03Gen_expr k g1 2) (Gr A g1 22) := fun g1 a b => ex_ok hA 2 (by omega) g1 a b
  have e3 : ∀ g1, GOk A g1 → g1.code.length < 890000 → Ok (fun k => spec_l03Gen_expr k g1 3) (Gr A g1 22) := fun g1 a b => ex_ok hA 3 (by omega) g1 a b
  have e1 : ∀ g1, GOk A g1 → g1.code.length < 890000 → Ok (fun k => spec_l03Gen_expr k g1 1) (Gr A g1 22) := fun g1 a b => ex_ok hA 1 (by omega) g1 a b
  refine Ok.cond (fun _ => ?_) fun _ => ?_
  · refine Ok.bind (e2 _ k0 (by (try dsimp only); omega)) fun t3 q3 => Ok.gd (by rw [aeq]; exact congrArg _ q3.ok.args) ?_
    have h1 := q3.ge
    have h2 := q3.le
    (try dsimp only at h1 h2)
    exact put_fin q3.ok (by omega) aeq (by omega) (by omega)
  refine Ok.cond (fun _ => ?_) fun _ => ?_
  · refine Ok.cond (fun hd => ?_) fun _ => Ok.pure ⟨k0, Nat.le_refl _, by (try dsimp only); omega⟩
    simp only [decide_eq_true_eq] at hd
    refine Ok.bind (e2 _ k0 (by (try dsimp only); omega)) fun t3 q3 => Ok.gd (by rw [aeq]; exact congrArg _ q3.ok.args) ?_
    have h1 := q3.ge
    have h2 := q3.le
    (try dsimp only at h1 h2)
    refine put_then q3.ok (by omega) fun g3 a1 a2 => Ok.gd (by rw [aeq]; exact congrArg _ a1.args) ?_
    refine Ok.bind (call hd _ a1 (by (try dsimp only); omega)) fun t7 q7 => Ok.gd (by rw [aeq]; exact congrArg _ q7.ok.args) ?_
    have h3 := q7.ge
    have h4 := q7.le
    (try dsimp only at h3 h4)
    refine put_then q7.ok (by omega) fun g4 b1 b2 => Ok.gd (by rw [aeq]; exact congrArg _ b1.args) ?_
    refine Ok.bind (here_ok b1 _ (by (try dsimp only); omega) (by (try dsimp only); omega)) fun g5 c1 => Ok.gd (by rw [aeq]; exact congrArg _ c1.1.args) ?_
    have c2 := c1.2
    (try dsimp only at c2)
    refine Ok.bind (call hd _ c1.1 (by omega)) fun t8 q8 => Ok.gd (by rw [aeq]; exact congrArg _ q8.ok.args) ?_
    have h5 := q8.ge
    have h6 := q8.le
    refine Ok.bind (here_ok q8.ok _ (by (try dsimp only); omega) (by (try dsimp only); omega)) fun g6 d1 => Ok.gd (by rw [aeq]; exact congrArg _ d1.1.args) (Ok.pure ⟨d1.1, ?_, ?_⟩)
    · have := d1.2; omega
    · have := d1.2; omega
  refine Ok.bind (Q := fun o => o.1 = ⟨t2.2, g'.args, g'.locals, g'.code, g'.most⟩ ∧ o.2.1 = deep) ?_ ?_
  · unfold spec_l03Gen_stmt.a1
    exact Ok.cond (fun _ => Ok.pure ⟨rfl, rfl⟩) fun _ => Ok.pure ⟨rfl, rfl⟩
  rintro ⟨g1, d1, n1, b1⟩ ⟨x1, x2⟩
  have z1 : g1 = _ := x1
  have z2 : d1 = deep := x2
  have k1 : GOk A g1 := z1 ▸ k0
  have l1 : g1.code.length = g'.code.length := by rw [z1]
  have aeq1 := aeq
  clear x1 x2 z1 k0
  subst z2
  dsimp only
  refine Ok.gd (congrArg List.length (k1.args.trans h.args.symm)) ?_
  refine Ok.cond (fun _ => ?_) fun _ => ?_
  · refine Ok.bind (Q := fun o => o.1 = g1 ∧ o.2.1 = d1 ∧ (o.2.2 = true → 0 < d1)) ?_ ?_
    · unfold spec_l03Gen_stmt.a2
      refine Ok.cond (fun hd => Ok.pure ⟨rfl, rfl, fun _ => by simpa using hd⟩) fun _ => Ok.pure ⟨rfl, rfl, by simp⟩
    rintro ⟨g2, d2, b2⟩ ⟨x1, x2, x3⟩
    have z1 : g2 = g1 := x1
    have z2 : d2 = d1 := x2
    have z3 : b2 = true → 0 < d1 := x3
    clear x1 x2 x3
    subst z1 z2
    dsimp only
    refine Ok.gd (congrArg List.length (k1.args.trans h.args.symm)) ?_
    refine Ok.cond (fun hb => ?_) fun _ => Ok.pure ⟨k1, by (try dsimp only); omega, by (try dsimp only); omega⟩
    have hd := z3 hb
    refine Ok.bind (local_ok k1) ?_
    rintro ⟨z, g3⟩ ⟨y1, y2⟩
    have y2 : g3.code.length = g2.code.length := congrArg _ y2
    refine Ok.gd (by (try dsimp only); rw [aeq1]; exact congrArg _ y1.args) (Ok.bind (n_ok y1.src 6 (by omega)) fun t13 q13 => ?_)
    refine put_then (y1.with_ q13.1) (by (try dsimp only); omega) fun g4 a1 a2 => Ok.gd (by (try dsimp only); rw [aeq1]; exact congrArg _ a1.args) ?_
    (try dsimp only at a2)
    refine put_then a1 (by omega) fun g5 a3 a4 => Ok.gd (by (try dsimp only); rw [aeq1]; exact congrArg _ a3.args) ?_
    refine put_then a3 (by omega) fun g6 a5 a6 => Ok.gd (by (try dsimp only); rw [aeq1]; exact congrArg _ a5.args) ?_
    refine put_then a5 (by omega) fun g7 a7 a8 => Ok.gd (by (try dsimp only); rw [aeq1]; exact congrArg _ a7.args) ?_
    refine Ok.bind (call hd _ a7 (by (try dsimp only); omega)) fun t7 q7 => Ok.gd (by (try dsimp only); rw [aeq1]; exact congrArg _ q7.ok.args) ?_
    have h3 := q7.ge
    have h4 := q7.le
    (try dsimp only at h3 h4)
    refine put_then q7.ok (by omega) fun g8 b1 b2 => Ok.gd (by (try dsimp only); rw [aeq1]; exact congrArg _ b1.args) ?_
    refine put_then b1 (by omega) fun g9 b3 b4 => Ok.gd (by (try dsimp only); rw [aeq1]; exact congrArg _ b3.args) ?_
    refine put_then b3 (by omega) fun ga b5 b6 => Ok.gd (by (try dsimp only); rw [aeq1]; exact congrArg _ b5.args) ?_
    refine put_then b5 (by omega) fun gb b7 b8 => Ok.gd (by (try dsimp only); rw [aeq1]; exact congrArg _ b7.args) ?_
    refine put_then b7 (by omega) fun gc b9 ba => Ok.gd (by (try dsimp only); rw [aeq1]; exact congrArg _ b9.args) ?_
    refine Ok.bind (here_ok b9 _ (by (try dsimp only); omega) (by (try dsimp only); omega)) fun g5' c1 => Ok.gd (by (try dsimp only); rw [aeq1]; exact congrArg _ c1.1.args) (Ok.pure ⟨c1.1, ?_, ?_⟩)
    · have := c1.2; (try dsimp only at this ⊢); omega
    · have := c1.2; (try dsimp only at this ⊢); omega
  refine Ok.cond (fun _ => ?_) fun _ => ?_
  · refine Ok.cond (fun _ => ?_) fun _ => Ok.pure ⟨k1, by (try dsimp only); omega, by (try dsimp only); omega⟩
    refine Ok.bind (local_ok k1) ?_
    rintro ⟨z, g3⟩ ⟨y1, y2⟩
    have y2 : g3.code.length = g1.code.length := congrArg _ y2
    refine Ok.gd (by (try dsimp only); rw [aeq1]; exact congrArg _ y1.args) (Ok.bind (n_ok y1.src 6 (by omega)) fun t13 q13 => ?_)
    refine put_then (y1.with_ q13.1) (by (try dsimp only); omega) fun g4 a1 a2 => Ok.gd (by (try dsimp only); rw [aeq1]; exact congrArg _ a1.args) ?_
    (try dsimp only at a2)
    refine put_then a1 (by omega) fun g5 a3 a4 => Ok.gd (by (try dsimp only); rw [aeq1]; exact congrArg _ a3.args) ?_
    refine put_then a3 (by omega) fun g6 a5 a6 => Ok.gd (by (try dsimp only); rw [aeq1]; exact congrArg _ a5.args) ?_
    refine put_then a5 (by omega) fun g7 a7 a8 => Ok.gd (by (try dsimp only); rw [aeq1]; exact congrArg _ a7.args) ?_
    refine Ok.bind (n_ok a7.src 4 (by omega)) fun t31 q31 => ?_
    refine put_then (a7.with_ q31.1) (by (try dsimp only); omega) fun g8 a9 aa => Ok.gd (by (try dsimp only); rw [aeq1]; exact congrArg _ a9.args) ?_
    (try dsimp only at aa ⊢)
    refine Ok.bind (e1 _ a9 (by omega)) fun t33 q33 => Ok.gd (by (try dsimp only); rw [aeq1]; exact congrArg _ q33.ok.args) ?_
    have h3 := q33.ge
    have h4 := q33.le
    (try dsimp only at h3 h4)
    exact put_fin q33.ok (by omega) aeq1 (by omega) (by omega)
  refine Ok.cond (fun _ => ?_) fun _ => ?_
  · refine Ok.bind (e3 _ k1 (by (try dsimp only); omega)) fun t35 q35 => Ok.gd (by (try dsimp only); rw [aeq1]; exact congrArg _ q35.ok.args) ?_
    have h3 := q35.ge
    have h4 := q35.le
    (try dsimp only at h3 h4)
    exact put_fin q35.ok (by omega) aeq1 (by omega) (by omega)
  refine Ok.bind (e3 _ k1 (by (try dsimp only); omega)) fun t35 q35 => Ok.gd (by (try dsimp only); rw [aeq1]; exact congrArg _ q35.ok.args) ?_
  have h3 := q35.ge
  have h4 := q35.le
  (try dsimp only at h3 h4)
  refine Ok.cond (fun _ => ?_) fun _ => put_fin q35.ok (by omega) aeq1 (by omega) (by omega)
  refine Ok.bind (local_ok q35.ok) ?_
  rintro ⟨z, g3⟩ ⟨y1, y2⟩
  have y2 : g3.code.length = t35.code.length := congrArg _ y2
  exact Ok.gd (by (try dsimp only); rw [aeq1]; exact congrArg _ y1.args) (put_fin y1 (by (try dsimp only); omega) aeq1 (by (try dsimp only); omega) (by (try dsimp only); omega))
theorem stmt_ok {A : List Int} (hA : AOk A) : ∀ (d : Nat), d ≤ 5 → ∀ (g : Gl03Gen) (deep : Int), deep ≤ (d : Int) → GOk A g → g.code.length + 6 * sSize d < 700000 → Ok (fun k => spec_l03Gen_stmt k g deep) (Gr A g (sSize d)) := by
  intro d
  induction d with
  | zero =>
    intro _ g deep hd h hN
    have : sSize 0 = 60 := rfl
    exact Ok.succ (stmt_step hA (S := 0) (fun h0 => by omega) h (by omega))
  | succ d ih =>
    intro hd5 g deep hd h hN
    have e : sSize (d + 1) = 2 * sSize d + 60 := rfl
    have := sSize_pos d
    have hs : sSize d ≤ 3780 := by
      have : d = 0 ∨ d = 1 ∨ d = 2 ∨ d = 3 ∨ d = 4 := by omega
      rcases this with rfl | rfl | rfl | rfl | rfl <;> decide
    rw [e] at hN ⊢
    refine Ok.succ (stmt_step hA (S := sSize d) (fun h0 g' hg hl => ?_) h (by omega))
    rw [wrap_id (by omega) (by omega)]
    exact ih (by omega) g' (deep - 1) (by omega) hg (by omega)
structure FW (m : GFunc) : Prop where
  args : L.i64 m.args
  code : m.code.length ≤ 6000
structure PW (p : GProgram) : Prop where
  len : p.funcs.length ≤ 8
  all : ∀ m ∈ p.funcs, FW m
structure PN (p : GProgram) : Prop where
  len : 1 ≤ p.funcs.length ∧ p.funcs.length ≤ 3
  all : ∀ m ∈ p.funcs, L.i64 m.args ∧ 1 ≤ m.code.length ∧ m.code.length ≤ 5000
theorem PN.pw {p : GProgram} (h : PN p) : PW p := ⟨by have := h.len; omega, fun m hm => ⟨(h.all m hm).1, by have := (h.all m hm).2; omega⟩⟩
theorem progArgs_ok (a2 a3 : GProgram) : ∀ (c : Nat) (s : Gl01Src) (A : List Int), SOk s → (∀ a ∈ A, 0 ≤ a ∧ a ≤ 2) → A.length + c ≤ 3 →
    Ok (fun k => spec_l01Src_l03Program.l1 k s a2 a3 A (c : Int)) (fun r => SOk r.1 ∧ r.2.1 = a2 ∧ r.2.2.1 = a3 ∧ r.2.2.2.length = A.length + c ∧ ∀ a ∈ r.2.2.2, 0 ≤ a ∧ a ≤ 2)
  | 0, s, A, hs, hA, hl => by
    refine Ok.succ ?_
    simp only [spec_l01Src_l03Program.l1]
    exact Ok.cond (fun h => by simp at h) fun _ => Ok.pure ⟨hs, rfl, rfl, rfl, hA⟩
  | c + 1, s, A, hs, hA, hl => by
    refine Ok.succ ?_
    simp only [spec_l01Src_l03Program.l1]
    refine Ok.cond (fun _ => ?_) fun h => by first | (simp at h; done) | (simp at h; omega)
    refine Ok.bind (n_ok hs 3 (by omega)) fun t q => Ok.gd ⟨by omega, by omega⟩ ?_
    rw [show IntKind.i64.wrap (((c + 1 : Nat) : Int) - 1) = (c : Int) by rw [wrap_id (by omega) (by omega)]; omega]
    refine (progArgs_ok a2 a3 c t.2 (A ++ [t.1]) q.1 (fun a ha => ?_) (by simp; omega)).mono fun r hr => ⟨hr.1, hr.2.1, hr.2.2.1, by have := hr.2.2.2.1; simp at this; omega, hr.2.2.2.2⟩
    simp only [List.mem_append, List.mem_cons, List.not_mem_nil, or_false] at ha
    rcases ha with ha | rfl
    · exact hA a ha
    · have := q.2
      omega
theorem progStmts_ok {A : List Int} (hA : AOk A) (a1 a2 : GProgram) (f : Int) : ∀ (c : Nat) (g : Gl03Gen), c ≤ 3 → GOk A g → g.code.length + c * 420 + 3000 < 700000 →
    Ok (fun k => spec_l01Src_l03Program.l3 k a1 a2 g f (c : Int)) (fun r => r.1 = a1 ∧ r.2.1 = a2 ∧ Gr A g (c * 420) r.2.2.1 ∧ r.2.2.2 = f)
  | 0, g, hc, h, hN => by
    refine Ok.succ ?_
    simp only [spec_l01Src_l03Program.l3]
    exact Ok.cond (fun h => by simp at h) fun _ => Ok.pure ⟨rfl, rfl, ⟨h, Nat.le_refl _, by simp⟩, rfl⟩
  | c + 1, g, hc, h, hN => by
    refine Ok.succ ?_
    simp only [spec_l01Src_l03Program.l3]
    refine Ok.cond (fun _ => ?_) fun h => by first | (simp at h; done) | (simp at h; omega)
    have es : sSize 2 = 420 := rfl
    refine Ok.bind (stmt_ok hA 2 (by omega) g 2 (by omega) h (by omega)) fun t q => Ok.gd (by rw [q.ok.args, h.args]) ?_
    rw [show IntKind.i64.wrap (((c + 1 : Nat) : Int) - 1) = (c : Int) by rw [wrap_id (by omega) (by omega)]; omega]
    have h1 := q.ge
    have h2 := q.le
    rw [es] at h2
    refine (progStmts_ok hA a1 a2 f c t (by omega) q.ok (by omega)).mono fun r hr => ⟨hr.1, hr.2.1, ⟨hr.2.2.1.ok, ?_, ?_⟩, hr.2.2.2⟩
    · have := hr.2.2.1.ge; omega
    · have := hr.2.2.1.le; omega
theorem min_ok (a b : Int) : spec_l01Min a b = some (if a < b then a else b) := by
  unfold spec_l01Min
  by_cases h : a < b <;> simp [h]
theorem progFuncs_ok {A : List Int} (hA : AOk A) (a2 : GProgram) : ∀ (d i : Nat) (s : Gl01Src) (p : GProgram), A.length - i = d → i ≤ A.length → SOk s → p.funcs.length = i → (∀ m ∈ p.funcs, L.i64 m.args ∧ 1 ≤ m.code.length ∧ m.code.length ≤ 5000) →
    Ok (fun k => spec_l01Src_l03Program.l2 k s a2 p A (i : Int)) (fun r => SOk r.1 ∧ PN r.2.2)
  | 0, i, s, p, hd, hi, hs, hp, hall => by
    refine Ok.succ ?_
    simp only [spec_l01Src_l03Program.l2]
    have := hA.len
    exact Ok.cond (fun h => by simp at h; omega) fun _ => Ok.pure ⟨hs, ⟨by dsimp only; omega, by dsimp only; omega⟩, hall⟩
  | d + 1, i, s, p, hd, hi, hs, hp, hall => by
    refine Ok.succ ?_
    simp only [spec_l01Src_l03Program.l2]
    have hl := hA.len
    refine Ok.cond (fun _ => ?_) fun h => by first | (simp at h; done) | (simp at h; omega)
    refine Ok.idx (by omega) (by omega) fun m3 hm3 => ?_
    have h3 := hA.all m3 (List.mem_of_getElem? hm3)
    refine Ok.bind (n_ok hs 4 (by omega)) fun t4 q4 => ?_
    have h4 := q4.2
    rw [wrap_id (by omega) (by omega)]
    refine Ok.bind (Q := fun t => (if 8 < m3 + t4.1 then 8 else m3 + t4.1) = t) (Ok.const (min_ok _ _) rfl) ?_
    rintro t5 h5
    have h5' : 0 ≤ t5 ∧ t5 ≤ 8 := by rw [← h5]; split <;> omega
    refine Ok.bind (n_ok q4.1 3 (by omega)) fun t6 q6 => ?_
    have h6 := q6.2
    obtain ⟨c, hc⟩ := Int.eq_ofNat_of_zero_le (show 0 ≤ 1 + t6.1 by omega)
    rw [show IntKind.i64.wrap (1 + t6.1) = (c : Int) by rw [wrap_id (by omega) (by omega)]; exact hc]
    refine Ok.bind (progStmts_ok hA a2 p i c ⟨t6.2, A, t5, [], _⟩ (by omega) ⟨rfl, q6.1, h5'⟩ (by simp; omega)) ?_
    rintro ⟨a2', p', g1, i'⟩ ⟨e1, e2, e3, e4⟩
    have e1 : a2' = a2 := e1
    have e2 : p' = p := e2
    have e4 : i' = (i : Int) := e4
    have e3 : Gr A _ (c * 420) g1 := e3
    subst e1 e2 e4
    have g1l := e3.le
    simp only [List.length_nil] at g1l
    dsimp only
    refine Ok.gd (congrArg List.length e3.ok.args) ?_
    refine Ok.bind (ex_ok hA 2 (by omega) g1 e3.ok (by omega)) fun t8 q8 => Ok.gd (congrArg List.length q8.ok.args) ?_
    have h8 := q8.le
    have a2_ := congrArg List.length e3.ok.args
    refine put_then q8.ok (by omega) fun g2 b1 b2 => Ok.gd (congrArg List.length b1.args) ?_
    dsimp only
    rw [b1.args]
    refine Ok.idx (by omega) (by omega) fun m hm => Ok.gd ⟨by omega, by omega⟩ ?_
    have hmA := hA.all m (List.mem_of_getElem? hm)
    rw [wrap_nat (by omega)]
    refine progFuncs_ok hA a2' d (i + 1) g2.s _ (by omega) (by omega) b1.src (by simp; omega) fun m' hm' => ?_
    simp only [List.mem_append, List.mem_cons, List.not_mem_nil, or_false] at hm'
    rcases hm' with hm' | rfl
    · exact hall m' hm'
    · exact ⟨⟨by dsimp only; omega, by dsimp only; omega⟩, by dsimp only; omega, by dsimp only; omega⟩
theorem mem_set {α : Type} {l : List α} {i : Nat} {x y : α} (h : x ∈ l.set i y) : x ∈ l ∨ x = y := List.mem_or_eq_of_mem_set h
theorem pw_set {p : GProgram} (h : PN p) (i : Nat) {m : GFunc} (hm : FW m) : PW ⟨p.funcs.set i m⟩ := by
  refine ⟨by have := h.len; simp; omega, fun x hx => ?_⟩
  rcases mem_set hx with hx | rfl
  · exact h.pw.all x hx
  · exact hm
theorem spoilMore_ok : ∀ (d : Nat) (s : Gl01Src) (p : GProgram), 7 - p.funcs.length = d → SOk s → 1 ≤ p.funcs.length → p.funcs.length ≤ 7 → (∀ m ∈ p.funcs, FW m) → Ok (fun k => spec_l01Src_l03Spoil.l1 k s p) (fun r => SOk r.1 ∧ PW r.2)
  | d, s, p, hd, hs, h1, h2, hall => by
    refine Ok.succ ?_
    simp only [spec_l01Src_l03Spoil.l1]
    refine Ok.bind (n_ok hs 2 (by omega)) fun t q => ?_
    have hq := q.2
    rw [wrap_id (by omega) (by omega)]
    refine Ok.cond (fun hc => ?_) fun _ => Ok.pure ⟨q.1, ⟨by dsimp only; omega, hall⟩⟩
    simp only [decide_eq_true_eq] at hc
    refine Ok.idx (by omega) (by omega) fun m hm => Ok.gd ⟨by omega, by omega⟩ ?_
    match d, hd with
    | 0, hd => omega
    | d + 1, hd =>
      refine spoilMore_ok d t.2 _ (by simp; omega) q.1 (by simp) (by simp; omega) fun x hx => ?_
      have hmm := hall m (List.mem_of_getElem? hm)
      simp only [List.mem_append, List.mem_cons, List.not_mem_nil, or_false] at hx
      rcases hx with hx | rfl
      · exact hall x hx
      · exact hmm
theorem spoil_ok {s : Gl01Src} (hs : SOk s) {p : GProgram} (hp : PN p) : Ok (fun k => spec_l01Src_l03Spoil k s p) (fun r => SOk r.1 ∧ PW r.2) := by
  unfold spec_l01Src_l03Spoil
  have hl := hp.len
  refine Ok.bind (n_ok hs _ (by omega)) fun t1 q1 => ?_
  have h1 := q1.2
  refine Ok.idx h1.1 (by omega) fun m hm => ?_
  have hma := hp.all m (List.mem_of_getElem? hm)
  have hmi := hma.1
  have hmF : FW m := ⟨hmi, by omega⟩
  refine Ok.bind (n_ok q1.1 _ (by omega)) fun t3 q3 => ?_
  have h3 := q3.2
  have hk : t3.1 < (m.code.length : Int) := by omega
  refine Ok.bind (n_ok q3.1 8 (by omega)) fun t4 q4 => ?_
  refine Ok.cond (fun _ => ?_) fun _ => ?_
  · exact Ok.bind (n_ok q4.1 42 (by omega)) fun t5 q5 => Ok.idx h3.1 hk fun m6 hm6 => Ok.pure ⟨q5.1, pw_set hp _ ⟨hmi, by simp; omega⟩⟩
  refine Ok.cond (fun _ => ?_) fun _ => ?_
  · exact Ok.bind (n_ok q4.1 70 (by omega)) fun t5 q5 => Ok.idx h3.1 hk fun m6 hm6 => Ok.pure ⟨q5.1, pw_set hp _ ⟨hmi, by simp; omega⟩⟩
  refine Ok.cond (fun _ => ?_) fun _ => ?_
  · refine Ok.bind (n_ok q4.1 7 (by omega)) fun t5 q5 => Ok.pure ⟨q5.1, pw_set hp _ ⟨?_, by dsimp only; omega⟩⟩
    have := q5.2
    dsimp only
    rw [wrap_id (by omega) (by omega)]
    exact ⟨by omega, by omega⟩
  refine Ok.cond (fun _ => ?_) fun _ => ?_
  · exact Ok.bind (n_ok q4.1 4 (by omega)) fun t5 q5 => Ok.idx q5.2.1 (by simp; omega) fun m6 hm6 => Ok.pure ⟨q5.1, pw_set hp _ ⟨hmi, by dsimp only; omega⟩⟩
  refine Ok.cond (fun _ => ?_) fun _ => ?_
  · exact Ok.gd ⟨h3.1, by omega⟩ (Ok.pure ⟨q4.1, pw_set hp _ ⟨hmi, by simp; omega⟩⟩)
  refine Ok.cond (fun _ => ?_) fun _ => ?_
  · exact Ok.gd ⟨by omega, by omega⟩ (Ok.pure ⟨q4.1, pw_set hp _ ⟨hmi, by simp; omega⟩⟩)
  refine Ok.cond (fun _ => ?_) fun _ => ?_
  · exact Ok.bind (n_ok q4.1 _ (by omega)) fun t5 q5 => Ok.idx h3.1 hk fun m6 hm6 => Ok.pure ⟨q5.1, pw_set hp _ ⟨hmi, by simp; omega⟩⟩
  refine Ok.bind (spoilMore_ok _ t4.2 ⟨p.funcs.set t1.1.toNat m⟩ rfl q4.1 (by simp; omega) (by simp; omega) fun x hx => ?_) fun r hr => Ok.pure hr
  rcases mem_set hx with hx | rfl
  · exact hp.pw.all x hx
  · exact hmF
theorem program_ok {s : Gl01Src} (hs : SOk s) : Ok (fun k => spec_l01Src_l03Program k s) (fun r => PW r.1 ∧ SOk r.2) := by
  unfold spec_l01Src_l03Program
  refine Ok.bind (n_ok hs 3 (by omega)) fun t1 q1 => ?_
  have h1 := q1.2
  obtain ⟨c, hc⟩ := Int.eq_ofNat_of_zero_le (show 0 ≤ 1 + t1.1 by omega)
  rw [show IntKind.i64.wrap (1 + t1.1) = (c : Int) by rw [wrap_id (by omega) (by omega)]; exact hc]
  refine Ok.bind (progArgs_ok ⟨[]⟩ ⟨[]⟩ c t1.2 [] q1.1 (by simp) (by simp; omega)) ?_
  rintro ⟨s1, a2, a3, A⟩ ⟨e1, e2, e3, e4, e5⟩
  have e2 : a2 = ⟨[]⟩ := e2
  have e3 : a3 = ⟨[]⟩ := e3
  subst e2 e3
  have e4 : A.length = 0 + c := e4
  have hA : AOk A := ⟨by omega, e5⟩
  dsimp only
  refine Ok.bind (progFuncs_ok hA ⟨[]⟩ _ 0 s1 ⟨[]⟩ rfl (by omega) e1 rfl (by simp)) ?_
  rintro ⟨s2, a2, p⟩ ⟨f1, f2⟩
  dsimp only at f1 f2 ⊢
  refine Ok.bind (one_ok f1 12 (by omega)) fun t q => Ok.cond (fun _ => ?_) fun _ => Ok.pure ⟨f2.pw, q⟩
  exact Ok.bind (spoil_ok q f2) fun r hr => Ok.pure ⟨hr.2, hr.1⟩
theorem source_l (code : List Int) (hc : code.length ≤ 1048576) : ∀ (d i : Nat) (s : Gl01Src), 64 - i = d → i ≤ 64 → i ≤ code.length → s.b = code → s.at0 = 0 → s.size = 0 →
    Ok (fun k => spec_l01Source.l1 k s code (i : Int)) (fun r => r.1.b = code ∧ r.1.at0 = 0 ∧ r.2 = code)
  | d, i, s, hd, hi, hi2, hb, h0, hz => by
    refine Ok.succ ?_
    simp only [spec_l01Source.l1]
    refine Ok.bind (Q := fun o => (o = .inl (s, code, (i : Int)) ∧ i < code.length ∧ i < 64) ∨ o = .inr (s, code)) ?_ ?_
    · unfold spec_l01Source.a2
      refine Ok.cond (fun h => Ok.cond (fun h2 => Ok.pure (.inl ⟨rfl, ?_, ?_⟩)) fun _ => Ok.pure (.inr rfl)) fun _ => Ok.pure (.inr rfl)
      · simp at h; exact h
      · simp at h2; omega
    · rintro o (⟨rfl, h1, h2⟩ | rfl)
      · dsimp only [Sum.elim_inl]
        refine Ok.idx (by omega) (by omega) fun m hm => ?_
        rw [wrap_nat (by omega)]
        match d, hd with
        | 0, hd => omega
        | d + 1, hd => exact source_l code hc d (i + 1) _ (by omega) (by omega) (by omega) hb h0 hz
      · exact Ok.pure ⟨hb, h0, rfl⟩
theorem source_ok (code : List Int) (hc : code.length ≤ 1048576) : Ok (fun k => spec_l01Source k code) SOk := by
  unfold spec_l01Source
  refine Ok.bind (source_l code hc _ 0 ⟨code, 0, 88172645463325252, 0⟩ rfl (by omega) (by omega) rfl rfl rfl) ?_
  rintro ⟨s, l⟩ ⟨e1, e2, e3⟩
  have e1 : s.b = code := e1
  have e2 : s.at0 = 0 := e2
  have e3 : l = code := e3
  subst e3
  have hq : iquo .i64 (l.length : Int) 20 = (l.length : Int) / 20 := by
    unfold iquo
    rw [Int.tdiv_eq_ediv_of_nonneg (by omega), wrap_id (by omega) (by omega)]
  dsimp only
  rw [hq]
  refine Ok.cond (fun h => Ok.pure ⟨by dsimp only; rw [e2, e1]; omega, by dsimp only; rw [e1]; exact hc, by dsimp only; omega⟩) fun h => Ok.pure ⟨by dsimp only; rw [e2, e1]; omega, by dsimp only; rw [e1]; exact hc, ?_⟩
  simp at h
  dsimp only
  omega
end Go.Proofs.YtdlaplgofgklnaaGreat
namespace Go.Proofs.YtdlaplgofgklnaaGreat
open Go.Proofs Go.Proofs.YtdlaplgofgklnaaGreat.L
set_option linter.unusedVariables false
set_option linter.unusedSimpArgs false
structure Tiny (H K : Nat) (s : GState) : Prop where
  nf : s.frames.length ≤ 10
  fr : ∀ f ∈ s.frames, f.locals.length ≤ 100 ∧ f.stack.length ≤ K
  nh : s.heap.length ≤ H
  hp : ∀ l ∈ s.heap, l.length ≤ 100
  out : s.out.length ≤ 3000
theorem Tiny.small {H K : Nat} {s : GState} (h : Tiny H K s) (h1 : H ≤ 100) (h2 : K ≤ 100) : SmallS s :=
  ⟨by have := h.nf; omega, fun f hf => by have := h.fr f hf; omega, by have := h.nh; omega, fun l hl => by have := h.hp l hl; omega, by have := h.out; omega⟩
theorem StRight.tiny {p : GProgram} {hs : List (List Int)} (hp : RightP p) (ht : Hts p hs) {s : GState} (h : StRight p hs s) : Tiny 30 50 s := by
  have h1 := h.deep
  have h2 := h.few
  have h3 := h.out
  have h4 := h.fuel
  refine ⟨by omega, fun f hf => ?_, by omega, fun l hl => by have := h.arr l hl; omega, by omega⟩
  obtain ⟨j, hj⟩ := List.getElem?_of_mem hf
  obtain ⟨g, x, m, hh, y, F⟩ := h.frames j f (by omega) hj
  have hmem := List.mem_of_getElem? F.m_
  obtain ⟨h', q1, q2, q3⟩ := ht.at_ g m F.m_
  have eh : h' = hh := by have := F.h_; rw [q1] at this; exact Option.some.inj this
  subst eh
  have hy := (heights_past hp hmem q2).2.1 x y F.y_
  have hl := (hp.all m hmem).1.locals
  have h5 := F.locals
  have h6 := F.y0
  unfold A1 at hy
  refine ⟨by omega, ?_⟩
  by_cases c : bhOf s.frames j < 0
  · have := F.last c; omega
  · have := (F.mid (by omega)).2.2.2; omega
theorem tiny0 {F : Int} {d : Bool} {v t : Int} : Tiny 30 50 ⟨[], [], [], F, d, v, t⟩ := ⟨by simp, by simp, by simp, by simp, by simp⟩
theorem argsLoop_ok : ∀ (d : Nat) (c : Int) (s : Gl01Src) (l : List Int), (if c < 9 then c.toNat else 0) = d → L.i64 c → SOk s → l.length + d ≤ 1000 → Ok (fun k => spec_l01Src_l06Args.l3 k s l c) (fun r => SOk r.1 ∧ r.2.length ≤ l.length + d)
  | d, c, s, l, hd, hc, hs, hl => by
    refine Ok.succ ?_
    simp only [spec_l01Src_l06Args.l3]
    refine Ok.bind (Q := fun o => (o = .inl (s, l, c) ∧ 0 < c ∧ c < 9) ∨ o = .inr (s, l)) ?_ ?_
    · unfold spec_l01Src_l06Args.a4
      refine Ok.cond (fun h => Ok.cond (fun h2 => Ok.pure (.inl ⟨rfl, ?_, ?_⟩)) fun _ => Ok.pure (.inr rfl)) fun _ => Ok.pure (.inr rfl)
      · simp at h; exact h
      · simp at h2; exact h2
    · rintro o (⟨rfl, h1, h2⟩ | rfl)
      · dsimp only [Sum.elim_inl]
        rw [if_pos h2] at hd
        refine Ok.bind (num_ok hs) fun t ht => ?_
        refine Ok.gd (by omega) ?_
        rw [wrap_id (by omega) (by omega)]
        match d, hd with
        | 0, hd => omega
        | d + 1, hd => exact (argsLoop_ok d (c - 1) t.2 (l ++ [t.1]) (by rw [if_pos (by omega)]; omega) ⟨by omega, by omega⟩ ht (by simp; omega)).mono fun r hr => ⟨hr.1, by have := hr.2; simp at this; omega⟩
      · exact Ok.pure ⟨hs, by dsimp only; omega⟩
theorem args_ok {s : Gl01Src} (hs : SOk s) {p : GProgram} (hp : PW p) (f : Int) : Ok (fun k => spec_l01Src_l06Args k s p f) (fun r => SOk r.2 ∧ r.1.length ≤ 9) := by
  unfold spec_l01Src_l06Args
  refine Ok.bind (Q := fun o => SOk o.1 ∧ o.2.length ≤ 9) ?_ fun o ho => Ok.pure ho
  unfold spec_l01Src_l06Args.a1
  refine Ok.bind (Q := fun o => o = (s, p.funcs, ([] : List Int), f, decide (0 ≤ f ∧ f < (p.funcs.length : Int)))) ?_ ?_
  · unfold spec_l01Src_l06Args.a2
    refine Ok.cond (fun h => Ok.pure ?_) fun h => Ok.pure ?_
    · simp at h
      congr 4
      exact decide_eq_decide.2 ⟨fun hh => ⟨h, hh⟩, fun hh => hh.2⟩
    · simp at h
      congr 4
      exact (decide_eq_false (by omega)).symm
  · rintro o rfl
    dsimp only
    refine Ok.cond (fun h => ?_) fun h => Ok.pure ⟨hs, by simp⟩
    have h := of_decide_eq_true h
    refine Ok.idx h.1 h.2 fun m hm => ?_
    have hm64 := (hp.all m (List.mem_of_getElem? hm)).args
    refine Ok.bind (argsLoop_ok _ m.args s [] rfl hm64 hs ?_) fun o ho => Ok.pure ⟨ho.1, ?_⟩
    · split
      · simp; omega
      · simp
    · have h9 : (if m.args < 9 then m.args.toNat else 0) ≤ 9 := by split <;> omega
      have := ho.2
      rw [List.length_nil] at this
      show o.2.length ≤ 9
      omega
theorem fuel_ok {s : Gl01Src} (hs : SOk s) : Ok (fun k => spec_l01Src_l06Fuel k s) (fun r => SOk r.2) := by
  unfold spec_l01Src_l06Fuel
  refine Ok.bind (one_ok hs 20 (by omega)) fun t ht => Ok.cond (fun _ => Ok.bind (n_ok ht 4 (by omega)) fun t2 h2 => ?_) fun _ => Ok.bind (n_ok ht 300 (by omega)) fun t4 h4 => Ok.pure h4.1
  exact Ok.idx h2.2.1 (by have := h2.2.2; simp at this ⊢; omega) fun m _ => Ok.pure h2.1
theorem begin_ok {p : GProgram} (ha : Args64 p) (hn : p.funcs.length ≤ 1048576) (f : Int) {l : List Int} (hl : l.length ≤ 9) : Ok (fun k => spec_Begin k p f l 400) (Tiny 30 50) := by
  unfold spec_Begin
  refine Ok.cond (fun _ => Ok.pure tiny0) fun _ => ?_
  obtain ⟨v, hv, hv2⟩ := specVerify ha hn
  have hr : Ev (fun k => spec_l04Right k p) (v.c == 0) := by
    unfold spec_l04Right
    exact Ev.bind hv (Ev.const rfl)
  refine Ok.bind (Q := fun b => b = true → RightP p ∧ 0 ≤ f ∧ f < (p.funcs.length : Int)) ?_ fun b hb => ?_
  · unfold spec_l06Ok
    refine Ok.bind (Q := fun b => b = true → RightP p ∧ 0 ≤ f ∧ f < (p.funcs.length : Int)) ?_ fun b hb => ?_
    · unfold spec_l04Is
      refine Ok.bind (Q := fun b => b = (v.c == 0)) ⟨_, hr, rfl⟩ fun b hb => ?_
      subst hb
      refine Ok.cond (fun h => Ok.cond (fun h1 => Ok.pure fun h2 => ?_) fun _ => Ok.pure (fun h => by cases h)) fun _ => Ok.pure (fun h => by cases h)
      simp at h h1 h2
      exact ⟨hv2.1 h, h1, h2⟩
    · refine Ok.cond (fun h => ?_) fun _ => Ok.pure (fun h => by cases h)
      have h := hb h
      exact Ok.idx h.2.1 h.2.2 fun m _ => Ok.cond (fun _ => Ok.cond (fun _ => Ok.pure fun _ => h) fun _ => Ok.pure (fun h => by cases h)) fun _ => Ok.pure (fun h => by cases h)
  · refine Ok.cond (fun _ => Ok.pure tiny0) fun h => ?_
    simp only [Bool.not_eq_false'] at h
    obtain ⟨hp, h0, h1⟩ := hb h
    unfold spec_l06Frame
    obtain ⟨m, hm⟩ := list_get (show f.toNat < p.funcs.length by omega)
    have hF := (hp.all m (List.mem_of_getElem? hm)).1
    have hloc := hF.locals
    have harg := hF.args
    have e1 : L.idx p.funcs f = some m := by rw [idx_of h0, hm]
    simp only [e1, Option.bind_some]
    have hle : (cpyL (List.replicate m.locals.toNat 0) 0 m.locals.toNat l).length = m.locals.toNat := by rw [cpyL_length _ _ _ _ (by simp)]; simp
    refine Ok.const (v := ⟨[⟨f, 0, cpyL (List.replicate m.locals.toNat 0) 0 m.locals.toNat l, []⟩], [], [], 400, false, 0, 0⟩) ?_ ?_
    · rw [gdp (by omega)]; rfl
    · refine ⟨by simp, fun g hg => ?_, by simp, by simp, by simp⟩
      simp only [List.mem_singleton] at hg
      subst hg
      dsimp only
      rw [hle]
      simp
      omega
theorem stepTiny {p : GProgram} (ha : Args64 p) (hn : p.funcs.length ≤ 1048576) {s : GState} (hT : Tiny 30 50 s) : Ok (fun k => spec_Step k p s) (Tiny 30 50) := by
  have hS := hT.small (by omega) (by omega)
  obtain ⟨hs, ok, hk, hok, hts⟩ := known_ev ha hn
  by_cases hp : RightP p
  · have ht := hts hp
    obtain ⟨b, q1, q2, q3⟩ := right_both ha hn hp ht hS
    cases b with
    | false =>
      refine ⟨s, ?_, hT⟩
      unfold spec_Step
      exact Ev.bind (copy_ev hS) (Ev.bind q2 (Ev.cf rfl Ev.pure))
    | true =>
      have hR := q3 rfl
      by_cases c : s.done = false ∧ 0 < s.fuel0
      · obtain ⟨s', r1, r2, r3, r4⟩ := step_both hp ht hR c.1 c.2
        have e0 : (!s.done && decide (s.fuel0 > 0)) = true := by rw [c.1, dt (show s.fuel0 > 0 from c.2)]; rfl
        refine ⟨s', ?_, r3.tiny hp ht⟩
        unfold spec_Step
        exact Ev.bind (copy_ev hS) (Ev.bind q2 (Ev.ct rfl (Ev.bind (Ev.const (goes_eq _)) (Ev.ct e0 (Ev.bind (Ev.of r2) Ev.pure)))))
      · have e0 : (!s.done && decide (s.fuel0 > 0)) = false := by
          cases hd : s.done with
          | true => rfl
          | false => rw [df (show ¬ s.fuel0 > 0 from fun h => c ⟨hd, h⟩)]; rfl
        refine ⟨s, ?_, hT⟩
        unfold spec_Step
        exact Ev.bind (copy_ev hS) (Ev.bind q2 (Ev.ct rfl (Ev.bind (Ev.const (goes_eq _)) (Ev.cf e0 Ev.pure))))
  · refine ⟨s, ?_, hT⟩
    unfold spec_Step
    exact Ev.bind (copy_ev hS) (Ev.bind (not_right ha hn hp s) (Ev.cf rfl Ev.pure))
theorem stepsTiny {p : GProgram} (ha : Args64 p) (hn : p.funcs.length ≤ 1048576) (z : GState) : ∀ (d : Nat) (c : Int) (a : Gl01Src) (s : GState), c.toNat = d → L.i64 c → SOk a → Tiny 30 50 s →
    Ok (fun k => spec_l01Src_l06State.l1 k a p.funcs z s c) (fun r => SOk r.1 ∧ Tiny 30 50 r.2.2)
  | d, c, a, s, hd, hc, ha', hs => by
    have hc1 : -9223372036854775808 ≤ c ∧ c ≤ 9223372036854775807 := hc
    refine Ok.succ ?_
    simp only [spec_l01Src_l06State.l1]
    refine Ok.cond (fun h => ?_) fun h => Ok.pure ⟨ha', hs⟩
    simp at h
    refine Ok.bind (stepTiny ha hn hs) fun t ht => ?_
    rw [wrap_id (by omega) (by omega)]
    match d, hd with
    | 0, hd => omega
    | d + 1, hd => exact stepsTiny ha hn z d (c - 1) a t (by omega) ⟨by omega, by omega⟩ ha' ht
theorem heapsTiny (z : GState) : ∀ (d : Nat) (a : Gl01Src) (s : GState), 32 - s.heap.length = d → SOk a → Tiny 40 50 s → Ok (fun k => spec_l01Src_l06State.l3 k a z s) (fun r => SOk r.1 ∧ Tiny 40 50 r.2.2)
  | d, a, s, hd, ha, hs => by
    refine Ok.succ ?_
    simp only [spec_l01Src_l06State.l3]
    have h1 := hs.nh
    refine Ok.bind (n_ok ha 3 (by omega)) fun t ht => ?_
    have ht2 := ht.2
    rw [wrap_id (by simp at ht2; omega) (by simp at ht2; omega)]
    refine Ok.cond (fun h => ?_) fun h => Ok.pure ⟨ht.1, hs⟩
    simp at h
    refine Ok.gd (by omega) ?_
    match d, hd with
    | 0, hd => simp at ht2; omega
    | d + 1, hd =>
      refine heapsTiny z d t.2 _ (by simp; omega) ht.1 ⟨hs.nf, hs.fr, by simp at ht2 ⊢; omega, ?_, hs.out⟩
      intro l hl
      rcases List.mem_append.1 hl with h2 | h2
      · exact hs.hp l h2
      · simp only [List.mem_singleton] at h2; subst h2; simp
theorem spoilTiny (z : GState) {a : Gl01Src} {s : GState} (ha : SOk a) (hs0 : Tiny 30 50 s) : Ok (fun k => spec_l01Src_l06State.a2 k a z s) (fun r => SOk r.1 ∧ Tiny 40 100 r.2.2) := by
  have h30 := hs0.nh
  have hst : ∀ f ∈ s.frames, f.stack.length ≤ 50 := fun f hf => (hs0.fr f hf).2
  have hs5 : Tiny 40 50 s := ⟨hs0.nf, hs0.fr, by omega, hs0.hp, hs0.out⟩
  have hs : Tiny 40 100 s := ⟨hs0.nf, fun f hf => ⟨(hs0.fr f hf).1, by have := hst f hf; omega⟩, by omega, hs0.hp, hs0.out⟩
  unfold spec_l01Src_l06State.a2
  refine Ok.bind (one_ok ha 12 (by omega)) fun t ht => Ok.cond (fun _ => ?_) fun _ => Ok.pure ⟨ht, hs⟩
  refine Ok.bind (n_ok ht 6 (by omega)) fun u hu => ?_
  have set0 : ∀ (g : GFrame), g.locals.length ≤ 100 → g.stack.length ≤ 100 → Tiny 40 100 ⟨s.frames.set 0 g, s.heap, s.out, s.fuel0, s.done, s.value, s.trap⟩ := by
    intro g h1 h2
    refine ⟨by simpa using hs.nf, fun f hf => ?_, hs.nh, hs.hp, hs.out⟩
    rcases mem_set hf with h | h
    · exact hs.fr f h
    · subst h; exact ⟨h1, h2⟩
  have push : ∀ l : List Int, l.length ≤ 100 → Tiny 40 100 ⟨s.frames, s.heap ++ [l], s.out, s.fuel0, s.done, s.value, s.trap⟩ := by
    intro l h1
    refine ⟨hs.nf, hs.fr, by simp; omega, fun x hx => ?_, hs.out⟩
    rcases List.mem_append.1 hx with h | h
    · exact hs.hp x h
    · simp only [List.mem_singleton] at h; subst h; exact h1
  refine Ok.cond (fun _ => Ok.pure ⟨hu.1, hs.nf, hs.fr, hs.nh, hs.hp, hs.out⟩) fun _ => Ok.cond (fun _ => Ok.pure ⟨hu.1, hs.nf, hs.fr, hs.nh, hs.hp, hs.out⟩) fun _ => Ok.cond (fun _ => Ok.cond (fun h => ?_) fun _ => Ok.pure ⟨hu.1, hs⟩) fun _ => Ok.cond (fun _ => Ok.cond (fun h => ?_) fun _ => Ok.pure ⟨hu.1, hs⟩) fun _ => Ok.cond (fun _ => ?_) fun _ => ?_
  · simp at h
    refine Ok.bind (n_ok hu.1 70 (by omega)) fun v hv => Ok.idx (by omega) (by omega) fun m hm => Ok.pure ⟨hv.1, ?_⟩
    have := hs.fr m (List.mem_of_getElem? hm)
    exact set0 _ this.1 this.2
  · simp at h
    refine Ok.idx (by omega) (by omega) fun m hm => ?_
    have h1 := hs.fr m (List.mem_of_getElem? hm)
    have h2 := hst m (List.mem_of_getElem? hm)
    exact Ok.gd (by omega) (Ok.pure ⟨hu.1, set0 _ h1.1 (by simp; omega)⟩)
  · exact Ok.bind (heapsTiny z _ u.2 s rfl hu.1 hs5) fun o ho => Ok.pure ⟨ho.1, ho.2.nf, fun f hf => ⟨(ho.2.fr f hf).1, by have := (ho.2.fr f hf).2; omega⟩, ho.2.nh, ho.2.hp, ho.2.out⟩
  · refine Ok.bind (n_ok hu.1 3 (by omega)) fun v hv => ?_
    have h2 := hv.2
    simp at h2
    rw [wrap_id (by omega) (by omega)]
    exact Ok.gd (by omega) (Ok.gd (by omega) (Ok.pure ⟨hv.1, push _ (by simp; omega)⟩))
theorem state_ok {s : Gl01Src} (hs : SOk s) {p : GProgram} (hp : PW p) : Ok (fun k => spec_l01Src_l06State k s p) (fun r => Tiny 40 100 r.1 ∧ SOk r.2) := by
  have hlen := hp.len
  have ha : Args64 p := fun m hm => (hp.all m hm).args
  unfold spec_l01Src_l06State
  refine Ok.bind (n_ok hs _ (by omega)) fun t ht => Ok.bind (args_ok ht.1 hp _) fun u hu => Ok.bind (begin_ok ha (by omega) _ hu.2) fun b hb => Ok.bind (n_ok hu.1 60 (by omega)) fun v hv => ?_
  have hv2 := hv.2
  refine Ok.bind (stepsTiny ha (by omega) _ _ v.1 v.2 b rfl ⟨by omega, by omega⟩ hv.1 hb) fun o ho => Ok.bind (fuel_ok ho.1) fun w hw => ?_
  exact Ok.bind (spoilTiny _ hw ⟨ho.2.nf, ho.2.fr, ho.2.nh, ho.2.hp, ho.2.out⟩) fun q hq => Ok.pure ⟨hq.2, hq.1⟩
theorem drawRun_ok (code : List Int) (hc : code.length ≤ 1048576) : Ok (fun k => spec_DrawRun k code) (fun r => PW r.1 ∧ Tiny 40 100 r.2) := by
  unfold spec_DrawRun spec_l06One
  refine Ok.bind (Q := fun r => PW r.1 ∧ Tiny 40 100 r.2) ?_ fun r hr => Ok.pure hr
  exact Ok.bind (source_ok code hc) fun s hs => Ok.bind (program_ok hs) fun t ht => Ok.bind (state_ok ht.2 ht.1) fun q hq => Ok.pure ⟨ht.1, hq.1⟩
inductive Runs (p : GProgram) : GState → GState → Prop
  | stop {s : GState} : ¬ (s.done = false ∧ 0 < s.fuel0) → Runs p s s
  | go {s s' r : GState} : s.done = false → 0 < s.fuel0 → (∀ k, spec_l06Step k p s = some s') → Runs p s' r → Runs p s r
section
variable {p : GProgram} {hs : List (List Int)}
theorem Runs.ex (hp : RightP p) (ht : Hts p hs) : ∀ (n : Nat) (s : GState), s.fuel0.toNat = n → StRight p hs s → ∃ r, Runs p s r ∧ StRight p hs r := by
  intro n
  induction n with
  | zero => intro s hn hR; exact ⟨s, .stop (by omega), hR⟩
  | succ n ih =>
    intro s hn hR
    by_cases c : s.done = false
    · obtain ⟨s', r1, r2, r3, r4⟩ := step_both hp ht hR c (by omega)
      obtain ⟨r, g1, g2⟩ := ih s' (by omega) r3
      exact ⟨r, .go c (by omega) r2 g1, g2⟩
    · exact ⟨s, .stop (fun h => c h.1), hR⟩
theorem Runs.right (hp : RightP p) (ht : Hts p hs) {s r : GState} (h : Runs p s r) : StRight p hs s → StRight p hs r := by
  induction h with
  | stop _ => exact id
  | go c1 c2 h1 _ ih =>
    intro hR
    obtain ⟨s2, r1, r2, r3, r4⟩ := step_both hp ht hR c1 c2
    have e := (h1 0).symm.trans (r2 0)
    cases e
    exact ih r3
theorem Runs.same {s r r' : GState} (h : Runs p s r) : Runs p s r' → r = r' := by
  induction h with
  | stop c =>
    intro h'
    cases h' with
    | stop _ => rfl
    | go c1 c2 _ _ => exact absurd ⟨c1, c2⟩ c
  | go c1 c2 h1 _ ih =>
    intro h'
    cases h' with
    | stop c => exact absurd ⟨c1, c2⟩ c
    | go _ _ h2 h3 =>
      have e := (h1 0).symm.trans (h2 0)
      cases e
      exact ih h3
theorem goesB {s : GState} (c1 : s.done = false) (c2 : 0 < s.fuel0) : (!s.done && decide (s.fuel0 > 0)) = true := by rw [c1, dt (show s.fuel0 > 0 from c2)]; rfl
theorem stopB {s : GState} (c : ¬ (s.done = false ∧ 0 < s.fuel0)) : (!s.done && decide (s.fuel0 > 0)) = false := by
  cases hd : s.done with
  | true => rfl
  | false => rw [df (show ¬ s.fuel0 > 0 from fun h => c ⟨hd, h⟩)]; rfl
theorem Runs.evs (hp : RightP p) (ht : Hts p hs) (z : GState) {s r : GState} (h : Runs p s r) : StRight p hs s →
    Ev (fun k => impl_Run.l2 k z ⟨⟨p, hs⟩, s.frames, worldOf s⟩) (z, ⟨⟨p, hs⟩, r.frames, worldOf r⟩) ∧ Ev (fun k => spec_Run.l1 k p.funcs z s) (z, r) := by
  induction h with
  | stop c =>
    intro hR
    refine ⟨Ev.succ ?_, Ev.succ ?_⟩
    · simp only [impl_Run.l2]
      exact Ev.bind (Ev.const (alive_eq _ _ _)) (Ev.cf (stopB c) Ev.pure)
    · simp only [spec_Run.l1]
      exact Ev.bind (Ev.const (goes_eq _)) (Ev.cf (stopB c) Ev.pure)
  | go c1 c2 h1 _ ih =>
    intro hR
    obtain ⟨s2, r1, r2, r3, r4⟩ := step_both hp ht hR c1 c2
    have e := (h1 0).symm.trans (r2 0)
    cases e
    obtain ⟨g1, g2⟩ := ih r3
    refine ⟨Ev.succ ?_, Ev.succ ?_⟩
    · simp only [impl_Run.l2]
      exact Ev.bind (Ev.const (alive_eq _ _ _)) (Ev.ct (goesB c1 c2) (Ev.bind (Ev.of r1) g1))
    · simp only [spec_Run.l1]
      exact Ev.bind (Ev.const (goes_eq _)) (Ev.ct (goesB c1 c2) (Ev.bind (Ev.of r2) g2))
theorem runs_ev (ha : Args64 p) (hn : p.funcs.length ≤ 1048576) (hp : RightP p) (ht : Hts p hs) (hk : Ev (fun k => impl_known k p) (⟨p, hs⟩, true)) {s r : GState} (hR : StRight p hs s) (hb1 : Ev (fun k => impl_prog_stateRight k ⟨p, hs⟩ s) true) (hb2 : Ev (fun k => spec_StateRight k p s) true) (h : Runs p s r) :
    Ev (fun k => impl_Run k p s) r ∧ Ev (fun k => spec_Run k p s) r := by
  have hS := hR.small hp ht
  have hA : Ev (fun k => impl_Run.a1 k s.frames s.heap s.out s.fuel0 s.done s.value s.trap ⟨[], [], [], 0, false, 0, 0⟩ ⟨p, hs⟩ true) (.inr (s.frames, s.heap, s.out, s.fuel0, s.done, s.value, s.trap, ⟨[], [], [], 0, false, 0, 0⟩, ⟨p, hs⟩)) := by
    unfold impl_Run.a1
    exact Ev.cf rfl (Ev.bind hb1 (Ev.cf rfl Ev.pure))
  obtain ⟨r1, r2⟩ := h.evs hp ht ⟨[], [], [], 0, false, 0, 0⟩ hR
  constructor
  · unfold impl_Run
    exact Ev.bind hk (Ev.bind hA (Ev.bind (runOf_ev _ hS) (Ev.bind r1 (Ev.bind (Ev.const (state_eq _ _)) Ev.pure))))
  · unfold spec_Run
    exact Ev.bind (copy_ev hS) (Ev.bind hb2 (Ev.cf rfl (Ev.bind r2 Ev.pure)))
end
def addF (R : Int) (s : GState) : GState := ⟨s.frames, s.heap, s.out, s.fuel0 + R, s.done, s.value, s.trap⟩
def setF (F : Int) (s : GState) : GState := ⟨s.frames, s.heap, s.out, F, s.done, s.value, s.trap⟩
theorem map_gd {α β : Type} (q : Prop) [Decidable q] (x : Option α) (f : α → β) : (L.gd q x).map f = L.gd q (x.map f) := by unfold L.gd; split <;> rfl
theorem map_cd {α β : Type} (b : Bool) (x y : Option α) (f : α → β) : (cond b x y).map f = cond b (x.map f) (y.map f) := by cases b <;> rfl
theorem map_bd {α β γ : Type} (x : Option α) (g : α → Option β) (f : β → γ) : (x.bind g).map f = x.bind fun a => (g a).map f := by cases x <;> rfl
theorem bd_map {α β γ : Type} (x : Option α) (f : α → β) (g : β → Option γ) : (x.map f).bind g = x.bind fun a => g (f a) := by cases x <;> rfl
def doB (k : Nat) (a : Int) (v : List Int) (fs : List GFrame) (H : List (List Int)) (o : List Int) (d : Bool) (w t : Int) := spec_l06Do_v2F2c1n0 k a v ⟨fs, H, o, 0, d, w, t⟩
theorem do_fuel (k : Nat) (a : Int) (v : List Int) (fs : List GFrame) (H : List (List Int)) (o : List Int) (F : Int) (d : Bool) (w t : Int) :
    spec_l06Do_v2F2c1n0 k a v ⟨fs, H, o, F, d, w, t⟩ = (doB k a v fs H o d w t).map fun r => (r.1, setF F r.2) := by
  unfold doB spec_l06Do_v2F2c1n0
  dsimp only
  simp only [map_bd, map_gd, map_cd, Option.map_some, Option.bind_some, setF]
theorem step_fuel (k : Nat) (p : GProgram) (s : GState) : spec_l06Step k p s = (spec_l06Step k p (setF 0 s)).map (setF (IntKind.i64.wrap (s.fuel0 - 1))) := by
  obtain ⟨fs, H, o, F, d, v, t⟩ := s
  show spec_l06Step k p ⟨fs, H, o, F, d, v, t⟩ = (spec_l06Step k p ⟨fs, H, o, 0, d, v, t⟩).map (setF (IntKind.i64.wrap (F - 1)))
  unfold spec_l06Step spec_l06Trap
  dsimp only
  simp only [map_bd, map_gd, map_cd, Option.map_some, Option.bind_some, do_fuel, bd_map, setF]
section
variable {p : GProgram} {hs : List (List Int)}
theorem step_add (k : Nat) {s s' : GState} {R : Int} (h1 : spec_l06Step k p s = some s') (hf : s'.fuel0 = s.fuel0 - 1) (h0 : 0 < s.fuel0) (hR : 0 ≤ R) (hm : s.fuel0 + R ≤ 3000) :
    spec_l06Step k p (addF R s) = some (addF R s') := by
  rw [step_fuel] at h1 ⊢
  have e : setF 0 (addF R s) = setF 0 s := rfl
  rw [e]
  cases hx : spec_l06Step k p (setF 0 s) with
  | none => rw [hx] at h1; cases h1
  | some x =>
    rw [hx] at h1
    simp only [Option.map_some, Option.some.injEq] at h1 ⊢
    have e2 : (addF R s).fuel0 = s.fuel0 + R := rfl
    rw [e2, wrap_id (by omega) (by omega)]
    rw [wrap_id (by omega) (by omega)] at h1
    subst h1
    unfold setF addF
    dsimp only
    congr 1
    omega
theorem Runs.more (hp : RightP p) (ht : Hts p hs) {s z : GState} (h : Runs p s z) : ∀ {R : Int} {r : GState}, 0 ≤ R → 0 ≤ s.fuel0 → s.fuel0 + R ≤ 3000 → StRight p hs (addF R s) → Runs p (addF R s) r → Runs p (addF R z) r ∧ StRight p hs (addF R z) := by
  induction h with
  | stop c => intro R r h0 h1 h2 hS hr; exact ⟨hr, hS⟩
  | @go s s' z c1 c2 h1 _ ih =>
    intro R r h0 hf h2 hS hr
    have d1 : (addF R s).done = false := c1
    have d2 : 0 < (addF R s).fuel0 := by show 0 < s.fuel0 + R; omega
    obtain ⟨s2, r1, r2, r3, r4⟩ := step_both hp ht hS d1 d2
    have hfu : s'.fuel0 = s.fuel0 - 1 := by
      have h3 := h1 0
      rw [step_fuel] at h3
      cases hx : spec_l06Step 0 p (setF 0 s) with
      | none => rw [hx] at h3; cases h3
      | some x =>
        rw [hx] at h3
        simp only [Option.map_some, Option.some.injEq] at h3
        rw [← h3]
        show IntKind.i64.wrap (s.fuel0 - 1) = s.fuel0 - 1
        exact wrap_id (by omega) (by omega)
    have e := (step_add 0 (h1 0) hfu c2 h0 h2).symm.trans (r2 0)
    cases e
    cases hr with
    | stop c => exact absurd ⟨d1, d2⟩ c
    | go _ _ g1 g2 =>
      have e2 := (g1 0).symm.trans (r2 0)
      cases e2
      exact ih h0 (by omega) (by omega) r3 g2
end
theorem sameNums_l (l : List Int) (hn : l.length < 4611686018427387904) : ∀ (d i : Nat), l.length - i = d → i ≤ l.length → Ev (fun k => spec_l06SameNums.l1 k l l (i : Int)) (.inr ()) := by
  intro d
  induction d with
  | zero =>
    intro i hd hi
    refine Ev.succ ?_
    simp only [spec_l06SameNums.l1]
    exact Ev.cf (df (by omega)) Ev.pure
  | succ d ih =>
    intro i hd hi
    obtain ⟨m, hm⟩ := list_get (show i < l.length by omega)
    refine Ev.succ ?_
    simp only [spec_l06SameNums.l1]
    refine Ev.ct (dt (by omega)) (Ev.idx hm (Ev.idx hm (Ev.cf (by simp) ?_)))
    rw [wrap_nat (by omega)]
    exact ih (i + 1) (by omega) (by omega)
theorem sameNums_ev (l : List Int) (hn : l.length < 4611686018427387904) : Ev (fun k => spec_l06SameNums k l l) true := by
  unfold spec_l06SameNums
  exact Ev.cf (by simp) (Ev.bind (sameNums_l l hn _ 0 rfl (by omega)) Ev.pure)
theorem sameHeap_l (l : List (List Int)) (hn : l.length < 4611686018427387904) (hc : ∀ x ∈ l, x.length < 4611686018427387904) : ∀ (d i : Nat), l.length - i = d → i ≤ l.length → Ev (fun k => spec_l06SameHeap.l1 k l l (i : Int)) (.inr ()) := by
  intro d
  induction d with
  | zero =>
    intro i hd hi
    refine Ev.succ ?_
    simp only [spec_l06SameHeap.l1]
    exact Ev.cf (df (by omega)) Ev.pure
  | succ d ih =>
    intro i hd hi
    obtain ⟨m, hm⟩ := list_get (show i < l.length by omega)
    refine Ev.succ ?_
    simp only [spec_l06SameHeap.l1]
    refine Ev.ct (dt (by omega)) (Ev.idx hm (Ev.idx hm (Ev.bind (sameNums_ev m (hc m (List.mem_of_getElem? hm))) (Ev.cf rfl ?_))))
    rw [wrap_nat (by omega)]
    exact ih (i + 1) (by omega) (by omega)
theorem sameHeap_ev (l : List (List Int)) (hn : l.length < 4611686018427387904) (hc : ∀ x ∈ l, x.length < 4611686018427387904) : Ev (fun k => spec_l06SameHeap k l l) true := by
  unfold spec_l06SameHeap
  exact Ev.cf (by simp) (Ev.bind (sameHeap_l l hn hc _ 0 rfl (by omega)) Ev.pure)
theorem stateSame_l {s : GState} (hS : SmallS s) : ∀ (d i : Nat), s.frames.length - i = d → i ≤ s.frames.length →
    Ev (fun k => spec_StateSame.l2 k s.frames s.heap s.out s.fuel0 s.done s.value s.trap s.frames s.heap s.out s.fuel0 s.done s.value s.trap (i : Int)) (.inr ()) := by
  have hn := hS.nf
  intro d
  induction d with
  | zero =>
    intro i hd hi
    refine Ev.succ ?_
    simp only [spec_StateSame.l2]
    exact Ev.cf (df (by omega)) Ev.pure
  | succ d ih =>
    intro i hd hi
    obtain ⟨m, hm⟩ := list_get (show i < s.frames.length by omega)
    have hf := hS.fr m (List.mem_of_getElem? hm)
    refine Ev.succ ?_
    simp only [spec_StateSame.l2]
    refine Ev.ct (dt (by omega)) (Ev.idx hm (Ev.idx hm (Ev.cf (by simp) (Ev.cf (by simp) (Ev.bind (sameNums_ev m.locals (by omega)) (Ev.cf rfl (Ev.bind (sameNums_ev m.stack (by omega)) (Ev.cf rfl ?_))))))))
    rw [wrap_nat (by omega)]
    exact ih (i + 1) (by omega) (by omega)
theorem stateSame_ev {s : GState} (hS : SmallS s) : Ev (fun k => spec_StateSame k s s) true := by
  have h1 := hS.nh
  have h2 := hS.out
  unfold spec_StateSame
  refine Ev.bind (a := .inr (s.frames, s.heap, s.out, s.fuel0, s.done, s.value, s.trap, s.frames, s.heap, s.out, s.fuel0, s.done, s.value, s.trap)) ?_ ?_
  · unfold spec_StateSame.a1
    exact Ev.cf (by simp) (Ev.cf (by simp) (Ev.cf (by simp) (Ev.cf (by simp) (Ev.cf (by simp) (Ev.bind (sameHeap_ev s.heap (by omega) (fun x hx => by have := hS.hp x hx; omega)) (Ev.cf rfl (Ev.bind (sameNums_ev s.out (by omega)) (Ev.cf rfl Ev.pure))))))))
  · exact Ev.bind (stateSame_l hS _ 0 rfl (by omega)) Ev.pure
theorem equal_l (l : List Int) (hn : l.length < 4611686018427387904) : ∀ (d i : Nat), l.length - i = d → i ≤ l.length → Ev (fun k => slices_Equal_int64_int64.l1 k l l (l.length : Int) (i : Int)) (.inr ()) := by
  intro d
  induction d with
  | zero =>
    intro i hd hi
    refine Ev.succ ?_
    simp only [slices_Equal_int64_int64.l1]
    exact Ev.cf (df (by omega)) Ev.pure
  | succ d ih =>
    intro i hd hi
    obtain ⟨m, hm⟩ := list_get (show i < l.length by omega)
    refine Ev.succ ?_
    simp only [slices_Equal_int64_int64.l1]
    refine Ev.ct (dt (by omega)) (Ev.idx hm (Ev.idx hm (Ev.cf (by simp) ?_)))
    rw [wrap_nat (by omega)]
    exact ih (i + 1) (by omega) (by omega)
theorem equal_ev (l : List Int) (hn : l.length < 4611686018427387904) : Ev (fun k => slices_Equal_int64_int64 k l l) true := by
  unfold slices_Equal_int64_int64
  exact Ev.cf (by simp) (Ev.bind (equal_l l hn _ 0 rfl (by omega)) Ev.pure)
theorem sameFrame_ev (f : GFrame) (h : f.locals.length ≤ 1048576 ∧ f.stack.length ≤ 1048576) : Ev (fun k => impl_sameFrame k f f) true := by
  unfold impl_sameFrame
  exact Ev.ct (by simp) (Ev.ct (by simp) (Ev.bind (equal_ev f.locals (by omega)) (Ev.ct rfl (Ev.bind (equal_ev f.stack (by omega)) Ev.pure))))
theorem frames_l (l : List GFrame) (hn : l.length ≤ 1048576) (hc : ∀ f ∈ l, f.locals.length ≤ 1048576 ∧ f.stack.length ≤ 1048576) : ∀ (d i : Nat), l.length - i = d → i ≤ l.length → Ev (fun k => slices_EqualFunc_impl_Frame_impl_Frame_impl_Frame_impl_Frame_vG2sameFrame.l1 k l l (l.length : Int) (i : Int)) (.inr ()) := by
  intro d
  induction d with
  | zero =>
    intro i hd hi
    refine Ev.succ ?_
    simp only [slices_EqualFunc_impl_Frame_impl_Frame_impl_Frame_impl_Frame_vG2sameFrame.l1]
    exact Ev.cf (df (by omega)) Ev.pure
  | succ d ih =>
    intro i hd hi
    obtain ⟨m, hm⟩ := list_get (show i < l.length by omega)
    refine Ev.succ ?_
    simp only [slices_EqualFunc_impl_Frame_impl_Frame_impl_Frame_impl_Frame_vG2sameFrame.l1]
    refine Ev.ct (dt (by omega)) (Ev.idx hm (Ev.idx hm (Ev.bind (sameFrame_ev m (hc m (List.mem_of_getElem? hm))) (Ev.cf rfl ?_))))
    rw [wrap_nat (by omega)]
    exact ih (i + 1) (by omega) (by omega)
theorem lists_l (l : List (List Int)) (hn : l.length ≤ 1048576) (hc : ∀ x ∈ l, x.length ≤ 1048576) : ∀ (d i : Nat), l.length - i = d → i ≤ l.length → Ev (fun k => slices_EqualFunc_int64_int64_int64_int64_vG2Equal.l1 k l l (l.length : Int) (i : Int)) (.inr ()) := by
  intro d
  induction d with
  | zero =>
    intro i hd hi
    refine Ev.succ ?_
    simp only [slices_EqualFunc_int64_int64_int64_int64_vG2Equal.l1]
    exact Ev.cf (df (by omega)) Ev.pure
  | succ d ih =>
    intro i hd hi
    obtain ⟨m, hm⟩ := list_get (show i < l.length by omega)
    have := hc m (List.mem_of_getElem? hm)
    refine Ev.succ ?_
    simp only [slices_EqualFunc_int64_int64_int64_int64_vG2Equal.l1]
    refine Ev.ct (dt (by omega)) (Ev.idx hm (Ev.idx hm (Ev.bind (equal_ev m (by omega)) (Ev.cf rfl ?_))))
    rw [wrap_nat (by omega)]
    exact ih (i + 1) (by omega) (by omega)
theorem implSame_ev {s : GState} (hS : SmallS s) : Ev (fun k => impl_StateSame k s s) true := by
  have h1 := hS.out
  unfold impl_StateSame
  refine Ev.bind (a := true) ?_ (Ev.ct rfl (Ev.bind (a := true) ?_ (Ev.ct rfl (Ev.bind (equal_ev s.out (by omega)) (Ev.ct rfl (Ev.ct (by simp) (Ev.ct (by simp) (Ev.ct (by simp) (Ev.const (by simp))))))))))
  · unfold slices_EqualFunc_impl_Frame_impl_Frame_impl_Frame_impl_Frame_vG2sameFrame
    exact Ev.cf (by simp) (Ev.bind (frames_l s.frames hS.nf hS.fr _ 0 rfl (by omega)) Ev.pure)
  · unfold impl_sameLists slices_EqualFunc_int64_int64_int64_int64_vG2Equal
    exact Ev.bind (Ev.cf (by simp) (Ev.bind (lists_l s.heap hS.nh hS.hp _ 0 rfl (by omega)) Ev.pure)) Ev.pure
theorem lwAt_ok (l : List Int) (hl : l.length ≤ 9223372036854775807) (n : Int) (hn : 1 < n) : Ok (fun k => laws_lwAt k l 0 n) (fun r => -n < r ∧ r < n) := by
  unfold laws_lwAt
  refine Ok.bind (Q := fun o => o = .inl 0 ∨ (o = .inr (l, 0, n) ∧ 0 < l.length)) ?_ ?_
  · unfold laws_lwAt.a1
    refine Ok.cond (fun _ => Ok.pure (.inl rfl)) fun _ => Ok.cond (fun _ => Ok.pure (.inl rfl)) fun h => Ok.pure (.inr ⟨rfl, ?_⟩)
    simp at h
    exact List.length_pos_iff.2 h
  · rintro o (rfl | ⟨rfl, h⟩)
    · exact Ok.pure ⟨by omega, by omega⟩
    · dsimp only [Sum.elim_inr]
      refine Ok.gd (by omega) ?_
      rw [Int.zero_tmod]
      refine Ok.idx (by omega) (by omega) fun m hm => Ok.gd (by omega) (Ok.pure ?_)
      exact ⟨Int.lt_tmod_of_pos _ (by omega), Int.tmod_lt_of_pos _ (by omega)⟩
section
variable {p : GProgram} {hs : List (List Int)}
theorem stepImpl (ha : Args64 p) (hn : p.funcs.length ≤ 1048576) (hp : RightP p) (ht : Hts p hs) (hk : Ev (fun k => impl_known k p) (⟨p, hs⟩, true)) {s s' : GState} (hR : StRight p hs s) (c1 : s.done = false) (c2 : 0 < s.fuel0) (hst : ∀ k, impl_run_step k ⟨⟨p, hs⟩, s.frames, worldOf s⟩ = some ⟨⟨p, hs⟩, s'.frames, worldOf s'⟩) (hb1 : Ev (fun k => impl_prog_stateRight k ⟨p, hs⟩ s) true) :
    Ev (fun k => impl_Step k p s) s' := by
  have hS := hR.small hp ht
  have hA : Ev (fun k => impl_Step.a1 k s.frames s.heap s.out s.fuel0 s.done s.value s.trap ⟨[], [], [], 0, false, 0, 0⟩ ⟨p, hs⟩ true) (.inr (s.frames, s.heap, s.out, s.fuel0, s.done, s.value, s.trap, ⟨[], [], [], 0, false, 0, 0⟩, ⟨p, hs⟩)) := by
    unfold impl_Step.a1
    exact Ev.cf rfl (Ev.bind hb1 (Ev.cf rfl Ev.pure))
  unfold impl_Step
  exact Ev.bind hk (Ev.bind hA (Ev.bind (runOf_ev _ hS) (Ev.bind (Ev.const (alive_eq _ _ _)) (Ev.ct (goesB c1 c2) (Ev.bind (Ev.of hst) (Ev.bind (Ev.const (state_eq _ _)) Ev.pure))))))
end
theorem frame_conv {p : GProgram} {hs : List (List Int)} (hp : RightP p) (ht : Hts p hs) {fr : GFrame} {bh : Int} {f x : Nat} {m : GFunc} {h : List Int} {y : Int} (F : FrameOk p hs fr bh f x m h y) : impl_prog_frameRight ⟨p, hs⟩ fr bh = some true := by
  obtain ⟨fn, pc, lo, st⟩ := fr
  obtain ⟨e1, hm, hh, e2, hy, cy, hxl, hl, hlast, hmid⟩ := F
  dsimp only at *
  subst e1 e2
  have hfl : f < p.funcs.length := (List.getElem?_eq_some_iff.1 hm).1
  have hF := (hp.all m (List.mem_of_getElem? hm)).1
  have hcode := hF.code
  obtain ⟨h', k1, k2, k3⟩ := ht.at_ f m hm
  have eh : h' = h := by rw [k1] at hh; exact Option.some.inj hh
  subst eh
  have hA := (heights_past hp (List.mem_of_getElem? hm) k2).2.1 x y hy
  unfold A1 at hA
  have hR := reached_at (p := p) (x := (x : Int)) hfl hh
  unfold impl_prog_frameRight impl_prog_stands
  dsimp only
  rw [hR, Int.toNat_natCast, hy]
  simp only [Option.some.injEq, exists_eq_left', Option.bind_some]
  have e0 : decide (0 ≤ (x : Int) ∧ 0 ≤ y) = true := dt ⟨by omega, cy⟩
  have el : ((lo.length : Int) == m.locals) = true := by simpa using hl
  rw [e0]
  simp only [Bool.not_true, cond_false]
  by_cases cb : bh < 0
  · have hdep : impl_prog_depth ⟨p, hs⟩ (f : Int) (x : Int) bh = some y := by
      unfold impl_prog_depth
      rw [decide_eq_true cb, cond_true, idx_nat, hh]
      simp only [Option.bind_some]
      rw [idx_nat, hy]
      rfl
    rw [decide_eq_true cb]
    simp only [cond_true, Option.bind_some]
    rw [idx_nat, hm]
    simp only [Option.bind_some, el, cond_true, hdep, hlast cb, beq_self_eq_true]
  · obtain ⟨h1, ⟨z, hz, cz⟩, hj, hst⟩ := hmid (by omega)
    have hdep : impl_prog_depth ⟨p, hs⟩ (f : Int) (x : Int) bh = some (y - 1) := by
      unfold impl_prog_depth
      rw [decide_eq_false cb, cond_false, idx_nat, hh]
      simp only [Option.bind_some]
      rw [idx_nat, hy]
      simp only [Option.bind_some]
      rw [wrap_id (by omega) (by omega)]
    have ew : IntKind.i64.wrap ((x : Int) - 1) = ((x - 1 : Nat) : Int) := by rw [wrap_id (by omega) (by omega)]; omega
    have hR2 := reached_at (p := p) (x := ((x - 1 : Nat) : Int)) hfl hh
    rw [Int.toNat_natCast, hz] at hR2
    simp only [Option.some.injEq, exists_eq_left'] at hR2
    rw [decide_eq_false cb, decide_eq_true (show (x : Int) > 0 by omega)]
    simp only [cond_false, cond_true]
    rw [ew, hR2]
    simp only [Option.bind_some]
    rw [dt (show (0 : Int) ≤ ((x - 1 : Nat) : Int) ∧ 0 ≤ z from ⟨by omega, cz⟩)]
    simp only [cond_true]
    rw [at_nat hm hj]
    simp only [Option.bind_some, beq_self_eq_true, Bool.and_true, cond_true]
    rw [idx_nat, hm]
    simp only [Option.bind_some, el, cond_true, hdep, hst, beq_self_eq_true]
theorem frames_conv {p : GProgram} {hs : List (List Int)} (hp : RightP p) (ht : Hts p hs) (l : List GFrame) (hl : l.length ≤ 1048576) (hF : FramesOk p hs l 0) (a3 : List (List Int)) (a4 : List Int) (a5 : Int) (a6 : Bool) (a7 a8 : Int) : ∀ (d i : Nat), l.length - i = d → i ≤ l.length →
    Ev (fun k => impl_prog_stateRight.l1 k l a3 a4 a5 a6 a7 a8 ⟨p, hs⟩ l (l.length : Int) (i : Int)) (.inr ()) := by
  intro d
  induction d with
  | zero =>
    intro i hd hi
    refine Ev.succ ?_
    simp only [impl_prog_stateRight.l1]
    exact Ev.cf (df (by omega)) Ev.pure
  | succ d ih =>
    intro i hd hi
    obtain ⟨m, hm⟩ := list_get (show i < l.length by omega)
    obtain ⟨f, x, m', h, y, F⟩ := hF i m (by omega) hm
    have q1 := frame_conv hp ht F
    refine Ev.succ ?_
    simp only [impl_prog_stateRight.l1]
    refine Ev.ct (dt (by omega)) (Ev.idx hm ?_)
    rw [wrap_nat (k := i) (by omega)]
    by_cases c : i + 1 < l.length
    · obtain ⟨g, hg⟩ := list_get c
      have eb : bhOf l i = g.func0 := by unfold bhOf; rw [hg]
      rw [eb] at q1
      exact Ev.ct (dt (by omega)) (Ev.idx hg (Ev.bind (Ev.const q1) (Ev.cf rfl (ih (i + 1) (by omega) (by omega)))))
    · have eb : bhOf l i = -1 := by unfold bhOf; rw [List.getElem?_eq_none (by omega)]
      rw [eb] at q1
      exact Ev.cf (df (by omega)) (Ev.bind (Ev.const q1) (Ev.cf rfl (ih (i + 1) (by omega) (by omega))))
theorem ok50_all {l : List (List Int)} (h : ∀ x ∈ l, x.length ≤ 50) : ok50 l 0 = true := by
  unfold ok50
  rw [List.drop_zero, List.all_eq_true]
  intro x hx
  exact dt (h x hx)
theorem right_conv {p : GProgram} {hs : List (List Int)} (ha : Args64 p) (hn : p.funcs.length ≤ 1048576) (hp : RightP p) (ht : Hts p hs) {s : GState} (h : StRight p hs s) :
    Ev (fun k => impl_prog_stateRight k ⟨p, hs⟩ s) true ∧ Ev (fun k => spec_StateRight k p s) true := by
  have hS := h.small hp ht
  obtain ⟨b, q1, q2, q3⟩ := right_both ha hn hp ht hS
  have hw : (worldB s && endB s) = true := by
    have h1 := h.fuel
    have h2 := h.few
    have h3 := h.out
    have h4 := h.deep
    unfold worldB headB endB
    rw [ok50_all h.arr]
    by_cases c : s.frames = []
    · obtain ⟨d1, d2⟩ := h.dead c
      rw [if_pos (by rw [c]; rfl), d1]
      simp only [Bool.and_true, Bool.true_and, Bool.and_eq_true, decide_eq_true_eq]
      refine ⟨⟨h1, h2, h3⟩, ?_⟩
      rcases d2 with d2 | ⟨d2, d3⟩
      · simp [d2]
      · simp [d2, d3]
    · obtain ⟨d1, d2, d3⟩ := h.live c
      rw [if_neg (by simp [c]), d1, d2, d3]
      simp only [Bool.and_true, Bool.true_and, Bool.and_eq_true, decide_eq_true_eq, Bool.not_false, beq_self_eq_true]
      exact ⟨⟨h1, h2, h3⟩, h4⟩
  have q4 : Ev (fun k => impl_prog_stateRight k ⟨p, hs⟩ s) true := by
    unfold impl_prog_stateRight
    refine Ev.bind (implWorld_ev hS) ?_
    rw [hw]
    exact Ev.cf rfl (Ev.bind (frames_conv hp ht s.frames hS.nf h.frames _ _ _ _ _ _ _ 0 rfl (by omega)) Ev.pure)
  have e := q1.unique q4
  subst e
  exact ⟨q4, q2⟩
section
variable {p : GProgram} {hs : List (List Int)}
theorem law_steps (ha : Args64 p) (hn : p.funcs.length ≤ 1048576) (hp : RightP p) (ht : Hts p hs) (hk : Ev (fun k => impl_known k p) (⟨p, hs⟩, true)) (a2 a3 : GState) (a5 : List Int) {r : GState} : ∀ (d i : Nat) (x : GState), 12 - i = d → i ≤ 12 → StRight p hs x → Runs p x r →
    ∃ y, Ev (fun k => laws_FnRun.l2 k p.funcs a2.frames a2.heap a2.out a2.fuel0 a2.done a2.value a2.trap a3 x.frames x.heap x.out x.fuel0 x.done x.value x.trap a5 (i : Int)) (.inr (p.funcs, a2.frames, a2.heap, a2.out, a2.fuel0, a2.done, a2.value, a2.trap, a3, y.frames, y.heap, y.out, y.fuel0, y.done, y.value, y.trap, a5)) ∧ StRight p hs y ∧ Runs p y r
  | d, i, x, hd, hi, hR, hr => by
    by_cases c : i < 12 ∧ (x.done = false ∧ 0 < x.fuel0)
    · obtain ⟨c0, c1, c2⟩ := c
      obtain ⟨s', r1, r2, r3, r4⟩ := step_both hp ht hR c1 c2
      have hr' : Runs p s' r := by
        cases hr with
        | stop c => exact absurd ⟨c1, c2⟩ c
        | go _ _ h2 h3 =>
          have e := (h2 0).symm.trans (r2 0)
          cases e
          exact h3
      match d, hd with
      | 0, hd => omega
      | d + 1, hd =>
        obtain ⟨y, g1, g2, g3⟩ := law_steps ha hn hp ht hk a2 a3 a5 d (i + 1) s' (by omega) (by omega) r3 hr'
        refine ⟨y, Ev.succ ?_, g2, g3⟩
        simp only [laws_FnRun.l2]
        refine Ev.bind (a := .inl (p.funcs, a2.frames, a2.heap, a2.out, a2.fuel0, a2.done, a2.value, a2.trap, a3, x.frames, x.heap, x.out, x.fuel0, x.done, x.value, x.trap, a5, (i : Int))) ?_ ?_
        · unfold laws_FnRun.a3
          exact Ev.ct (dt (by omega)) (Ev.ct (by rw [c1]; rfl) (Ev.ct (dt c2) Ev.pure))
        · dsimp only [Sum.elim_inl]
          have hb := right_conv ha hn hp ht r3
          have hf := hR.fuel
          refine Ev.bind (stepImpl ha hn hp ht hk hR c1 c2 r1 (right_conv ha hn hp ht hR).1) (Ev.bind (a := true) ?_ (Ev.cf rfl (Ev.cf ?_ ?_)))
          · unfold impl_StateRight
            exact Ev.bind hk (Ev.ct rfl (Ev.bind hb.1 Ev.pure))
          · rw [wrap_id (by omega) (by omega), r4]
            simp
          · rw [wrap_nat (by omega)]
            exact g1
    · refine ⟨x, Ev.succ ?_, hR, hr⟩
      simp only [laws_FnRun.l2]
      refine Ev.bind (a := Sum.inr (p.funcs, a2.frames, a2.heap, a2.out, a2.fuel0, a2.done, a2.value, a2.trap, a3, x.frames, x.heap, x.out, x.fuel0, x.done, x.value, x.trap, a5)) ?_ (by dsimp only [Sum.elim_inr]; exact Ev.pure)
      unfold laws_FnRun.a3
      by_cases c0 : i < 12
      · refine Ev.ct (dt (by omega)) ?_
        cases hd' : x.done with
        | true => exact Ev.cf rfl Ev.pure
        | false => exact Ev.ct rfl (Ev.cf (df (fun h => c ⟨c0, hd', h⟩)) Ev.pure)
      · exact Ev.cf (df (by omega)) Ev.pure
end
theorem law_fnrun (code more : List Int) (h1 : code.length ≤ 9223372036854775807) (h2 : more.length ≤ 9223372036854775807) : Ev (fun k => laws_FnRun k code more) true := by
  unfold laws_FnRun
  refine Ev.bind (a := if (code.length : Int) > 1048576 then .inl true else if (more.length : Int) > 1048576 then .inl true else .inr (code, more)) ?_ ?_
  · unfold laws_FnRun.a1
    by_cases c : (code.length : Int) > 1048576
    · rw [if_pos c]; exact Ev.ct (dt c) Ev.pure
    · rw [if_neg c]
      refine Ev.cf (df c) ?_
      by_cases c2 : (more.length : Int) > 1048576
      · rw [if_pos c2]; exact Ev.ct (dt c2) Ev.pure
      · rw [if_neg c2]; exact Ev.cf (df c2) Ev.pure
  by_cases c : (code.length : Int) > 1048576
  · rw [if_pos c]; exact Ev.pure
  rw [if_neg c]
  by_cases c2 : (more.length : Int) > 1048576
  · rw [if_pos c2]; exact Ev.pure
  rw [if_neg c2]
  dsimp only [Sum.elim_inr]
  obtain ⟨⟨p, s⟩, hd, hpw, hty⟩ := drawRun_ok code (by omega)
  have hpw : PW p := hpw
  have hty : Tiny 40 100 s := hty
  have ha : Args64 p := fun m hm => (hpw.all m hm).args
  have hlen := hpw.len
  have hn : p.funcs.length ≤ 1048576 := by omega
  have hS := hty.small (by omega) (by omega)
  refine Ev.bind hd ?_
  dsimp only
  obtain ⟨hs, ok, hk, hok, hts⟩ := known_ev ha hn
  by_cases hp : RightP p
  · have e1 : ok = true := hok.2 hp
    subst e1
    have ht := hts hp
    obtain ⟨b, q1, q2, q3⟩ := right_both ha hn hp ht hS
    cases b with
    | false =>
      refine Ev.bind q2 (Ev.ct rfl (Ev.bind (a := false) ?_ Ev.pure))
      unfold impl_StateRight
      exact Ev.bind hk (Ev.ct rfl (Ev.bind q1 Ev.pure))
    | true =>
      have hR := q3 rfl
      obtain ⟨r, hr, hrR⟩ := Runs.ex hp ht _ s rfl hR
      obtain ⟨i1, i2⟩ := runs_ev ha hn hp ht hk hR q1 q2 hr
      have hrS := hrR.small hp ht
      refine Ev.bind q2 (Ev.cf rfl (Ev.bind i1 (Ev.bind i2 (Ev.bind (stateSame_ev hrS) (Ev.cf rfl ?_)))))
      obtain ⟨y, g1, g2, g3⟩ := law_steps ha hn hp ht hk s r more 12 0 s rfl (by omega) hR hr
      refine Ev.bind g1 ?_
      dsimp only [Sum.elim_inr]
      have j1 := (runs_ev ha hn hp ht hk g2 (right_conv ha hn hp ht g2).1 (right_conv ha hn hp ht g2).2 g3).1
      refine Ev.bind j1 (Ev.bind (implSame_ev hrS) (Ev.cf rfl ?_))
      obtain ⟨w, hw, hw1, hw2⟩ := lwAt_ok more (by omega) 256 (by omega)
      refine Ev.bind hw ?_
      have hf := hR.fuel
      have hq : ∃ K, K ≤ s.fuel0 ∧ -256 < K ∧ Ev (fun k => laws_FnRun.a4 k p.funcs s.frames s.heap s.out s.fuel0 s.done s.value s.trap r w) (p.funcs, s.frames, s.heap, s.out, s.fuel0, s.done, s.value, s.trap, r, K) := by
        unfold laws_FnRun.a4
        by_cases cw : w > s.fuel0
        · exact ⟨s.fuel0, by omega, by omega, Ev.ct (dt cw) Ev.pure⟩
        · exact ⟨w, by omega, by omega, Ev.cf (df cw) Ev.pure⟩
      obtain ⟨K, hK1, hK2, hK⟩ := hq
      refine Ev.bind hK ?_
      dsimp only
      rw [wrap_id (show -9223372036854775808 ≤ s.fuel0 - K by omega) (by omega)]
      have hS2 : SmallS (setF K s) := ⟨hS.nf, hS.fr, hS.nh, hS.hp, hS.out⟩
      have fin : ∀ z : GState, Ev (fun k => impl_Run k p (setF K s)) z → L.i64 (z.fuel0 + (s.fuel0 - K)) → Ev (fun k => impl_Run k p (addF (s.fuel0 - K) z)) r →
          Ev (fun k => (impl_Run k ⟨p.funcs⟩ ⟨s.frames, s.heap, s.out, K, s.done, s.value, s.trap⟩).bind fun t12 => (impl_Run k ⟨p.funcs⟩ ⟨t12.frames, t12.heap, t12.out, IntKind.i64.wrap (t12.fuel0 + (s.fuel0 - K)), t12.done, t12.value, t12.trap⟩).bind fun t13 => (spec_StateSame k t13 r).bind fun t14 => some t14) true := by
        intro z z1 z2 z3
        refine Ev.bind z1 ?_
        rw [wrap_id z2.1 z2.2]
        exact Ev.bind z3 (Ev.bind (stateSame_ev hrS) Ev.pure)
      by_cases c0 : K < 0
      · -- not right: as it is
        obtain ⟨b, u1, u2, u3⟩ := right_both ha hn hp ht hS2
        have eb : b = false := by
          cases b with
          | false => rfl
          | true => have := (u3 rfl).fuel.1; exact absurd this (by show ¬ 0 ≤ K; omega)
        subst eb
        refine fin (setF K s) ?_ ⟨by show -9223372036854775808 ≤ K + (s.fuel0 - K); omega, by show K + (s.fuel0 - K) ≤ 9223372036854775807; omega⟩ ?_
        · unfold impl_Run
          refine Ev.bind hk (Ev.bind (a := Sum.inl (setF K s)) ?_ Ev.pure)
          unfold impl_Run.a1
          exact Ev.cf rfl (Ev.bind u1 (Ev.ct rfl (Ev.bind (own_ev hS2) Ev.pure)))
        · have e : addF (s.fuel0 - K) (setF K s) = s := by
            unfold addF setF
            dsimp only
            rw [show K + (s.fuel0 - K) = s.fuel0 by omega]
          rw [e]; exact i1
      · have hR2 : StRight p hs (setF K s) := ⟨⟨by show 0 ≤ K; omega, by show K ≤ 3000; omega⟩, hR.few, hR.arr, by have := hR.out; show (s.out.length : Int) ≤ 3000 - K; omega, hR.deep, hR.live, hR.dead, hR.frames⟩
        have e : addF (s.fuel0 - K) (setF K s) = s := by
          unfold addF setF
          dsimp only
          rw [show K + (s.fuel0 - K) = s.fuel0 by omega]
        obtain ⟨z, hz, hzR⟩ := Runs.ex hp ht _ (setF K s) rfl hR2
        have hm := hz.more hp ht (R := s.fuel0 - K) (r := r) (by omega) (by show 0 ≤ K; omega) (by show K + (s.fuel0 - K) ≤ 3000; omega) (by rw [e]; exact hR) (by rw [e]; exact hr)
        have hzf := hm.2.fuel
        refine fin z (runs_ev ha hn hp ht hk hR2 (right_conv ha hn hp ht hR2).1 (right_conv ha hn hp ht hR2).2 hz).1 ⟨?_, ?_⟩ (runs_ev ha hn hp ht hk hm.2 (right_conv ha hn hp ht hm.2).1 (right_conv ha hn hp ht hm.2).2 hm.1).1
        · have : 0 ≤ z.fuel0 + (s.fuel0 - K) := hzf.1
          omega
        · have : z.fuel0 + (s.fuel0 - K) ≤ 3000 := hzf.2
          omega
  · have e1 : ok = false := by
      cases ok with
      | false => rfl
      | true => exact absurd (hok.1 rfl) hp
    subst e1
    refine Ev.bind (not_right ha hn hp s) (Ev.ct rfl (Ev.bind (a := false) ?_ Ev.pure))
    unfold impl_StateRight
    exact Ev.bind hk (Ev.cf rfl Ev.pure)
end Go.Proofs.YtdlaplgofgklnaaGreat