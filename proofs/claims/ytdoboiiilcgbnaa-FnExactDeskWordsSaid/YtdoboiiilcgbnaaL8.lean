/- WHAT IS PROVED: the abstract operations that read and reckon tell what the model's operations do. Conditions: none. -/
import Derived.Test.YtdoboiiilcgbnaaL7
import Derived.Laws.StructEq
namespace Go.Proofs.Ytdoboiiilcgbnaa.L
set_option linter.unusedVariables false
set_option linter.unusedSimpArgs false

def Nx (nm : Nat) (N : Nat → Prop) : Nat → Prop := fun r => N r ∨ (nm ≤ r ∧ r < nm + 64)

/-- WHAT AN OPERATION'S LAW SAYS. -/
def OpOk (P : Program) (o : Oper) (nm : Nat) (st : St) (v : V) (st' : St) : Prop :=
  ∀ (Γ : Ctx) (N : Nat → Prop) (a : Act) (w : World), SatP Γ N st [] [] a.tmps w → (∀ r, nm ≤ r → r < nm + 64 → ¬ N r) →
    ∀ (K : Act → World → Prop) (Q : Exit → Act → World → Prop), (∀ val w', SatP Γ (Nx nm N) st' [v] [val] a.tmps w' → K (a.put o.dst val) w') → o.wp P a w K Q

theorem wp_value {P : Program} {o : Oper} {a : Act} {w w' : World} {val : Value} {K : Act → World → Prop} {Q : Exit → Act → World → Prop}
    (h : (execOp a.eval o).run P w = .ok (.value val) w') (hk : K (a.put o.dst val) w') : o.wp P a w K Q := by
  unfold Oper.wp; rw [h]; exact hk

theorem wp_skip' {P : Program} {o : Oper} {a : Act} {w w' : World} {K : Act → World → Prop} {Q : Exit → Act → World → Prop}
    (h : (execOp a.eval o).run P w = .ok .skip w') (hk : K (a.put o.dst undef) w') : o.wp P a w K Q := by
  unfold Oper.wp; rw [h]; exact hk

theorem ofO_run {α : Type} {x : Option α} {st st' : St} {a : α} {R W : List Res} (h : Run (Prog.ofO x) st a st' R W) : x = some a ∧ st' = st := by
  cases x with
  | none => simp only [Prog.ofO] at h; cases h
  | some y => simp only [Prog.ofO] at h; cases h; exact ⟨rfl, rfl⟩

theorem tyOf_spec {P : Program} {t : TypeId} {ty : Ty} (h : tyOf P t = some ty) :
    ∃ d i z, P.underlying t = some d ∧ P.info? t = some i ∧ i.zero = some z ∧ ty = { k := TyK.of d, size := i.size, bytes := i.bytes, zero := z.cells.toList } := by
  unfold tyOf at h
  split at h
  · rename_i d i h1 h2
    split at h
    · rename_i z h3
      exact ⟨d, i, z, h1, h2, h3, (Option.some.inj h).symm⟩
    · cases h
  · cases h

theorem ofK_slice {d : TypeDesc} {e : TypeId} (h : TyK.of d = .slice e) : d = .slice e := by cases d <;> simp_all [TyK.of]
theorem ofK_str {d : TypeDesc} (h : TyK.of d = .str) : d = .string := by cases d <;> simp_all [TyK.of]
theorem ofK_int {d : TypeDesc} {k : IntKind} (h : TyK.of d = .int k) : d = .int k := by cases d <;> simp_all [TyK.of]
theorem ofK_bool {d : TypeDesc} (h : TyK.of d = .bool) : d = .bool := by cases d <;> simp_all [TyK.of]
theorem ofK_array {d : TypeDesc} {n : Nat} {e : TypeId} (h : TyK.of d = .array n e) : d = .array n e := by cases d <;> simp_all [TyK.of]
theorem ofK_struct {d : TypeDesc} {fs : List (Nat × TypeId)} (h : TyK.of d = .struct fs) : ∃ f, d = .struct f ∧ fs = f.toList.map fun f => (f.offset, f.type) := by
  cases d <;> simp_all [TyK.of]

theorem ofK_agg {d : TypeDesc} : (TyK.of d).agg = d.isRow := by cases d <;> rfl

section
variable {P : Program} {Γ : Ctx} {Z B : Zone} {ρ : Names} {F : Ix → List Nat} {N : Nat → Prop} {st st' : St} {ps : List V} {vals : List Value} {X : List Nat} {tm : Array Value} {w : World}

theorem SatF.satP (h : SatF Γ Z B ρ F N st ps vals [] tm w) : SatP Γ N st ps vals tm w := ⟨Z, B, ρ, F, h⟩

theorem SatF.toNx {nm : Nat} (h : SatF Γ Z B ρ F N st ps vals X tm w) : SatF Γ Z B ρ F (Nx nm N) st ps vals X tm w := h.weakN (fun _ x => .inl x)

theorem fetchN_sound {a : Act} {x : Operand} {v : V} {nm : Nat} {R W : List Res} (hr : Run (fetchN nm x) st v st' R W) (hnm : ¬ N nm) (ha : a.tmps = tm) (h : SatF Γ Z B ρ F N st ps vals X tm w) :
    ∃ ρ' F', SatF Γ Z B ρ' F' (fun r => N r ∨ r = nm) st' (v :: ps) (a.eval x :: vals) X tm w := by
  obtain ⟨v1, st1, R1, W1, R2, W2, r1, r2, -, -⟩ := hr.bind_inv
  obtain ⟨F1, h1⟩ := fetch_sound r1 ha h
  obtain ⟨ρ', F', _, h2⟩ := name_sound (pre := []) r2 hnm h1
  exact ⟨ρ', F', h2⟩

theorem Nx_one {nm : Nat} : ∀ r, (N r ∨ r = nm) → Nx nm N r := fun r h => h.elim .inl (fun e => .inr (by omega))

/-- What is at hand in the front. -/
theorem SatF.head {v : V} {val : Value} (h : SatF Γ Z B ρ F N st (v :: ps) (val :: vals) X tm w) : ∃ G, RelV Z B w ρ v val G := by
  obtain ⟨⟨Fp, p1, p2⟩, p3⟩ := h.pend
  obtain ⟨v', vs', Fx, G, e, rfl, q1, q2⟩ := p2.cons_split
  cases e
  exact ⟨_, q1⟩

/-- The front turns into another value that holds no more. -/
theorem SatF.turn {v v' : V} {val val' : Value} (h : SatF Γ Z B ρ F N st (v :: ps) (val :: vals) X tm w)
    (hv : ∀ G, RelV Z B w ρ v val G → ∃ G', RelV Z B w ρ v' val' G' ∧ (∀ x, x ∈ G' → x ∈ G) ∧ (∀ x, G'.count x ≤ G.count x)) (hn : v.inN N → v'.inN N) :
    ∃ F', SatF Γ Z B ρ F' N st (v' :: ps) (val' :: vals) X tm w := by
  obtain ⟨⟨Fp, p1, p2⟩, p3⟩ := h.pend
  obtain ⟨v0, vs', Fx, G, e, rfl, q1, q2⟩ := p2.cons_split
  cases e
  obtain ⟨G', k1, k2, k3⟩ := hv _ q1
  obtain ⟨F', _, h'⟩ := h.rehand (ps' := v' :: ps) (vals' := val' :: vals) (X' := X) (Fp' := G' ++ G) (RelVs.append k1 q2) ⟨hn p3.1, p3.2⟩
    (by rw [p1]; intro hh; rw [List.nodup_iff_count] at hh ⊢; intro t; have hh := hh t; have := k3 t; simp only [List.count_append, List.count_cons, List.count_nil] at hh ⊢; omega)
    (by rw [p1]; intro x hx; simp only [List.mem_append, List.mem_cons] at hx ⊢; have := k2 x; grind)
  exact ⟨F', h'⟩

/-- .. into a plain value. -/
theorem SatF.plain {v : V} {val val' : Value} (h : SatF Γ Z B ρ F N st (v :: ps) (val :: vals) X tm w) (h1 : val'.oneCell' = true) :
    ∃ F', SatF Γ Z B ρ F' N st (.d (.p val') :: ps) (val' :: vals) X tm w :=
  h.turn (fun G _ => ⟨[], .d (.p h1 .nil) .nil, by simp, by simp⟩) (fun _ => trivial)

theorem rel_p {v val : Value} {G : List Nat} (h : RelV Z B w ρ (.d (.p v)) val G) : val = v := by
  cases h with
  | d h1 h2 => cases h2; cases h1 with | p _ h3 => cases h3; rfl

theorem move_ok {o : Oper} {nm : Nat} {v : V} {R W : List Res} {x : Operand} (ho : o.op = .move x ∨ o.op = .assign x) (hr : Run (fetchN nm x) st v st' R W) : OpOk P o nm st v st' := by
  rintro Γ N a w ⟨Z, B, ρ, F, h⟩ hf K Q hk
  obtain ⟨ρ', F', h1⟩ := fetchN_sound hr (hf nm (by omega) (by omega)) rfl h
  refine wp_value (w' := w) (val := a.eval x) ?_ (hk _ _ (h1.weakN Nx_one).satP)
  rcases ho with ho | ho <;> simp [execOp, ho]

theorem pick_ok {o : Oper} {nm : Nat} {v : V} {R W : List Res} {c x y : Operand} (ho : o.op = .pick c x y)
    (hr : Run ((fetchP c).bind fun v => match v with
    | .d (.p (.bool true)) => fetchP x
    | .d (.p (.bool false)) => fetchP y
    | _ => .fail) st v st' R W) : OpOk P o nm st v st' := by
  rintro Γ N a w ⟨Z, B, ρ, F, h⟩ hf K Q hk
  obtain ⟨v1, st1, R1, W1, R2, W2, r1, r2, -, -⟩ := hr.bind_inv
  obtain ⟨F1, h1⟩ := fetch_sound r1 (rfl : a.tmps = a.tmps) h
  obtain ⟨G, g⟩ := h1.head
  split at r2
  · obtain ⟨F2, h2⟩ := h1.drop
    obtain ⟨F3, h3⟩ := fetch_sound r2 (rfl : a.tmps = a.tmps) h2
    refine wp_value (w' := w) (val := a.eval x) ?_ (hk _ _ h3.toNx.satP)
    have := rel_p g
    simp [execOp, ho, this, asBool]
  · obtain ⟨F2, h2⟩ := h1.drop
    obtain ⟨F3, h3⟩ := fetch_sound r2 (rfl : a.tmps = a.tmps) h2
    refine wp_value (w' := w) (val := a.eval y) ?_ (hk _ _ h3.toNx.satP)
    have := rel_p g
    simp [execOp, ho, this, asBool]
  · cases r2

/-! ### Plain operators -/
theorem run_intBin (op : BinOp) (t : TypeId) (k : IntKind) (a b : Int) (v : Value) (hs : BinOp.isShift op = false) (h : intBin op k a b = some v) : (binOp op t (.int k a) (.int k b)).run P w = .ok v w := by
  cases op <;> simp [BinOp.isShift] at hs <;> simp [intBin] at h <;>
    first
      | (subst h; simp [binOp, Op.intArith, Op.intBits, Op.intCmp]; done)
      | (obtain ⟨h1, rfl⟩ := h; simp [binOp, Op.intDiv, h1])

theorem run_shiftBin (op : BinOp) (t : TypeId) (k k' : IntKind) (a b : Int) (v : Value) (hs : BinOp.isShift op = true) (h : shiftBin op k a b = some v) : (binOp op t (.int k a) (.int k' b)).run P w = .ok v w := by
  cases op <;> simp [BinOp.isShift] at hs <;> simp [shiftBin] at h <;> obtain ⟨h1, rfl⟩ := h <;> simp [binOp, Op.shift, Int.not_lt.2 h1]

theorem run_strBin (op : BinOp) (t : TypeId) (a b : ByteArray) (v : Value) (h : strBin op a b = some v) : (binOp op t (.string a) (.string b)).run P w = .ok v w := by
  cases op <;> simp [strBin] at h <;>
    first
      | (subst h; simp [binOp, Op.stringOp]; done)
      | (obtain ⟨h1, rfl⟩ := h
         have h2 : ¬ ((a.size : Int) + (b.size : Int) > 9223372036854775807) := by omega
         have h3 : IntKind.i64.max = 9223372036854775807 := by decide
         simp [binOp, Op.stringOp, h3]
         omega)

theorem eqGuard_plain (op : BinOp) (t : TypeId) (x y : Operand) (a b : Value) (h : ∀ cs cs', a = .agg cs → b = .agg cs' → False) (h2 : a = .nilIface → False) :
    (eqGuard op t x y a b).run P w = .ok () w := by
  unfold eqGuard
  cases op <;> simp <;> cases a <;> cases b <;> simp_all

theorem cellsEq_run {d : Nat} : ∀ (fs : List Field) (ks : List Nat) (k : Nat) (as bs : List V) (xs ys : Array Value) (r : Bool) (Ga Gb : List Nat),
    flatFields P fs k = some ks →
    (∃ pa pb xa xb, xs.toList = pa ++ xa ∧ ys.toList = pb ++ xb ∧ pa.length = k ∧ pb.length = k ∧ RelVs Z B w ρ as xa Ga ∧ RelVs Z B w ρ bs xb Gb) →
    cellsEq ks as bs = some r → (Op.eqFields (d + 1) xs ys fs).run P w = .ok r w
  | [], ks, k, as, bs, xs, ys, r, Ga, Gb, h1, h3, h4 => by
    simp only [flatFields, Option.some.injEq] at h1
    subst h1
    cases as <;> cases bs <;> simp [cellsEq] at h4
    subst h4
    simp [Op.eqFields]
  | f :: fs, ks, k, as, bs, xs, ys, r, Ga, Gb, h1, h3, h4 => by
    obtain ⟨pa, pb, xa, xb, e1, e2, e3, e4, g1, g2⟩ := h3
    simp only [flatFields] at h1
    split at h1
    · rename_i hn
      simp only [Bool.and_eq_true, bne_iff_ne, ne_eq, beq_iff_eq] at hn
      obtain ⟨n1, n2⟩ := hn
      simp only [Option.bind_eq_some_iff, Option.map_eq_some_iff] at h1
      obtain ⟨kk, n3, ks', n4, rfl⟩ := h1
      cases as with
      | nil => simp [cellsEq] at h4
      | cons va as =>
        cases bs with
        | nil => simp [cellsEq] at h4
        | cons vb bs =>
          obtain ⟨x, xa', Gx, Gx', rfl, rfl, q1, q2⟩ := g1.cons_split
          obtain ⟨y, xb', Gy, Gy', rfl, rfl, q3, q4⟩ := g2.cons_split
          simp only [cellsEq, Option.bind_eq_some_iff] at h4
          obtain ⟨c, c1, s, s1, c2⟩ := h4
          simp only [Option.some.injEq] at c2
          have hx : xs[k]? = some x := by
            rw [← Array.getElem?_toList, e1, List.getElem?_append_right (by omega), e3]; simp
          have hy : ys[k]? = some y := by
            rw [← Array.getElem?_toList, e2, List.getElem?_append_right (by omega), e4]; simp
          have ih := cellsEq_run (d := d) fs ks' (k + 1) as bs xs ys s Gx' Gy' n4
            ⟨pa ++ [x], pb ++ [y], xa', xb', by simp [e1], by simp [e2], by simp [e3], by simp [e4], q2, q4⟩ s1
          have pt : ∀ (zs : Array Value) (z : Value) (u : TypeDesc), P.underlying f.type = some u → u.isRow = false → zs[k]? = some z → (part f.type zs f.offset).run P w = .ok z w := by
            intro zs z u hu hrow hz
            have : (isAgg f.type).run P w = .ok false w := by
              unfold isAgg
              rw [Sem.run_bind, run_underlying hu w]
              cases u <;> simp_all
            simp [part, Sem.run_bind, this, n2, hz]
          have eqv : (Op.equalIn (d + 1) f.type x y).run P w = .ok c w ∧ (part f.type xs f.offset).run P w = .ok x w ∧ (part f.type ys f.offset).run P w = .ok y w := by
            unfold kindOf at n3
            unfold cellEq at c1
            split at c1
            · rename_i k1 a1 k2 b1
              have ex := rel_p q1; have ey := rel_p q3
              subst ex; subst ey
              split at c1
              · rename_i e; subst e
                simp only [Option.some.injEq] at c1; subst c1
                split at n3 <;> simp at n3
                rename_i kx hu
                exact ⟨run_equalIn_int w d f.type k1 kx a1 b1 hu, pt xs _ _ hu rfl hx, pt ys _ _ hu rfl hy⟩
              · cases c1
            · have ex := rel_p q1; have ey := rel_p q3
              subst ex; subst ey
              simp only [Option.some.injEq] at c1; subst c1
              split at n3 <;> simp at n3
              rename_i hu
              exact ⟨run_equalIn_bool' w d f.type _ _ hu, pt xs _ _ hu rfl hx, pt ys _ _ hu rfl hy⟩
            · have ex := rel_p q1; have ey := rel_p q3
              subst ex; subst ey
              simp only [Option.some.injEq] at c1; subst c1
              split at n3 <;> simp at n3
              rename_i hu
              refine ⟨?_, pt xs _ _ hu rfl hx, pt ys _ _ hu rfl hy⟩
              rw [run_equalIn_string w d f.type _ _ hu, beq_toListBytes]
            · cases c1
          rw [Op.eqFields, if_pos n1]
          simp only [Sem.run_bind, eqv.2.1, eqv.2.2, eqv.1, Result.andThen_ok]
          cases c
          · simp at c2; subst c2; simp
          · simp at c2; subst c2; simpa using ih
    · cases h1

theorem run_eqAgg {t : TypeId} {as bs : List V} {xs ys : List Value} {Ga Gb : List Nat} {ks : List Nat} {r : Bool} (hk : flatK P t = some ks) (hr : cellsEq ks as bs = some r)
    (ha : RelVs Z B w ρ as xs Ga) (hb : RelVs Z B w ρ bs ys Gb) :
    P.eqGuardType P.depth t = false ∧ (Op.equalIn 10000 t (.agg xs.toArray) (.agg ys.toArray)).run P w = .ok r w := by
  unfold flatK at hk
  split at hk
  · rename_i fs hu
    split at hk
    · rename_i hc
      simp only [Bool.and_eq_true, Bool.not_eq_true'] at hc
      have hf : P.fieldsOf t = fs := by simp [Program.fieldsOf, hu]
      refine ⟨hc.2, ?_⟩
      rw [run_equalIn_struct w 9999 t _ _ (by rw [hf]; exact hu) hc.1, hf]
      exact cellsEq_run (d := 9998) fs.toList ks 0 as bs xs.toArray ys.toArray r Ga Gb hk ⟨[], [], xs, ys, by simp, by simp, rfl, rfl, ha, hb⟩ hr
    · cases hk
  · cases hk

end
end Go.Proofs.Ytdoboiiilcgbnaa.L
