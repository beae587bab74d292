/- WHAT IS PROVED: an abstract walker over the model, what some functions of the program answer, and laws of these answers. Conditions: none. -/
import Derived.Test.YtdlaplgofgklnaaGreatKf2
import Derived.ProofKit
namespace Go.Proofs.YtdlaplgofgklnaaGreat.L
set_option linter.unusedVariables false
set_option linter.unusedSimpArgs false
structure CallW where
  args : List V
  objs : List C
  v : V
  objs' : List C
  pi : List Nat
  lent : List Nat
def CallW.π (c : CallW) (i : Nat) : Nat := c.pi.getD i 0
mutual
def argP (π : Nat → Nat) (L : List Nat) : V → V → Prog Unit
  | .agg ys, x => match x with
    | .agg xs => argsP π L ys xs
    | _ => .fail
  | .d y, x => match x with
    | .d x' => .req (x' = y ∨ (x'.lin = false ∧ y = x'.lend)) (.ret ())
    | .sl r s i n => .req (r ∈ L) (.get (.r r) fun c => match c with
      | .o s' rs => .req (s = s' ∧ i + n ≤ rs.length) ((Prog.ofO (undd ((rs.drop i).take n))).bind fun ds => .req (y = .row .bor s (D.lendLL ds)) (.ret ()))
      | _ => .fail)
    | .mp r s i j => .req (r ∈ L) (.get (.r r) fun c => match c with
      | .o s' rs => .req (s = s') ((Prog.ofO rs[i]?).bind fun row => .req (j ≤ row.length) ((Prog.ofO (undd.unddR (row.drop j))).bind fun ds => .req (y = .ptr .bor (D.lendL ds)) (.ret ())))
      | _ => .fail)
    | _ => .fail
  | y, x => .req (x = y.ren π) (.ret ())
def argsP (π : Nat → Nat) (L : List Nat) : List V → List V → Prog Unit
  | [], xs => match xs with
    | [] => .ret ()
    | _ => .fail
  | y :: ys, xs => match xs with
    | [] => .fail
    | x :: xs => (argP π L y x).bind fun _ => argsP π L ys xs
end
def objsP (π : Nat → Nat) : List Nat → List C → List C → Prog Unit
  | [], [], [] => .ret ()
  | p :: ps, o :: os, o' :: os' => .get (.r p) fun c => .req (c = o.ren π) (.set (.r p) (some (o'.ren π)) (objsP π ps os os'))
  | _, _, _ => .fail
def outT (nm : Nat) : List V → Nat → Prog (List V)
  | [], _ => .ret []
  | .agg as :: cs, k => (outP nm as k).bind fun bs => (outT nm cs (k + as.length)).bind fun ds => .ret (.agg bs :: ds)
  | c :: cs, k => (nameP (nm + k) c).bind fun d => (outT nm cs (k + 1)).bind fun ds => .ret (d :: ds)
def cntT : List V → Nat
  | [] => 0
  | .agg as :: cs => as.length + cntT cs
  | _ :: cs => cntT cs + 1
def nameAll (nm : Nat) : V → Prog V
  | .tup cs => (outT nm cs 0).bind fun r => .req (cntT cs ≤ 64) (.ret (.tup r))
  | .agg cs => (outP nm cs 0).bind fun r => .req (cs.length ≤ 64) (.ret (.agg r))
  | v => nameP nm v
def CallOk (P : Program) (f : FuncId) (c : CallW) : Prop :=
  Con P f c.args c.objs c.v c.objs' ∧ c.pi.Nodup ∧ (∀ r ∈ c.pi, r ∉ c.lent) ∧ (c.lent = [] ∨ (c.v.nb = true ∧ ∀ o ∈ c.objs', o.nb = true))
def callP (P : Program) (nm : Nat) (f : FuncId) (xs : List V) : Prog V :=
  .any (CallOk P f) fun c => (argsP c.π c.lent c.args xs).bind fun _ => (objsP c.π c.pi c.objs c.objs').bind fun _ => nameAll nm (c.v.ren c.π)
def opC (P : Program) (nm : Nat) : Op → Prog V
  | .call { callee := .value x, args := args, argTypes := _ } => (fetchP x).bind fun v => match v with
    | .clo f cs => (fetchAll args.toList).bind fun vs => callP P nm f (vs ++ cs)
    | _ => .fail
  | .call { callee := .builtin .copy, args := args, argTypes := ts } => match args.toList, ts.toList with
    | [x, y], [t, t2] => (fetchP y).bind fun b => (fetchP x).bind fun a => copyP P t t2 a b
    | _, _ => .fail
  | op => opP P nm op
section
variable {P : Program} {Γ : Ctx} {Z B : Zone} {ρ : Names} {F : Ix → List Nat} {N : Nat → Prop} {st st' : St} {ps : List V} {vals : List Value} {X : List Nat} {tm : Array Value} {w : World}
theorem fetchAll_sound {a : Act} : ∀ (xs : List Operand) (cs : List V) (st st1 : St) (R W : List Res) (F : Ix → List Nat) (ps : List V) (vals : List Value), Run (fetchAll xs) st cs st1 R W → SatF Γ Z B ρ F N st ps vals X a.tmps w →
    ∃ F', SatF Γ Z B ρ F' N st1 (cs ++ ps) (xs.map a.eval ++ vals) X a.tmps w ∧ cs.length = xs.length := by
  intro xs
  induction xs with
  | nil =>
    intro cs st st1 R W F ps vals hr h
    simp only [fetchAll] at hr
    cases hr
    exact ⟨F, h, rfl⟩
  | cons x xs ih =>
    intro cs st st1 R W F ps vals hr h
    simp only [fetchAll] at hr
    obtain ⟨v1, st2, R3, W3, R4, W4, r3, r4, -, -⟩ := hr.bind_inv
    obtain ⟨vs, st3, R5, W5, R6, W6, r5, r6, -, -⟩ := r4.bind_inv
    cases r6
    obtain ⟨F1, h1⟩ := fetch_sound r3 (rfl : a.tmps = a.tmps) h
    obtain ⟨F2, h2, hl⟩ := ih vs st2 st1 _ _ F1 _ _ r5 h1
    obtain ⟨F3, h3⟩ := SatF.front (pre := vs) (mid := [v1]) (va := xs.map a.eval) (vm := [a.eval x]) (by simpa using h2) (by simp [hl]) rfl
    exact ⟨F3, by simpa using h3, by simp [hl]⟩
mutual
theorem argP_run {π : Nat → Nat} {L : List Nat} : ∀ {y x : V} {u : Unit} {st st' : St} {R W : List Res}, Run (argP π L y x) st u st' R W →
    st' = st ∧ ∀ {xs ys : List V}, ArgOk st π (· ∈ L) xs ys → ArgOk st π (· ∈ L) (x :: xs) (y :: ys)
  | .agg ys, x, u, st, st', R, W, h => by
    unfold argP at h
    split at h
    · obtain ⟨e, k⟩ := argsP_run h
      exact ⟨e, fun ha => .agg k ha⟩
    · cases h
  | .d y, x, u, st, st', R, W, h => by
    unfold argP at h
    split at h
    · cases h with
      | req g h =>
        cases h
        refine ⟨rfl, fun ha => ?_⟩
        rcases g with rfl | ⟨g1, rfl⟩
        · exact ArgOk.ren (y := .d _) ha
        · exact .d g1 ha
    · cases h with
      | req g h =>
        cases h with
        | @get _ _ _ _ c _ _ _ c1 c2 =>
          dsimp only at c2
          split at c2
          · cases c2 with
            | req g1 c2 =>
              obtain ⟨rfl, g1⟩ := g1
              obtain ⟨ds, st1, R1, W1, R2, W2, r1, r2, -, -⟩ := c2.bind_inv
              obtain ⟨g2, rfl⟩ := ofO_run r1
              cases r2 with
              | req g3 r2 =>
                cases r2
                subst g3
                exact ⟨rfl, fun ha => .sl g c1 g1 g2 ha⟩
          · cases c2
    · cases h with
      | req g h =>
        cases h with
        | @get _ _ _ _ c _ _ _ c1 c2 =>
          dsimp only at c2
          split at c2
          · cases c2 with
            | req g1 c2 =>
              subst g1
              obtain ⟨row, st1, R1, W1, R2, W2, r1, r2, -, -⟩ := c2.bind_inv
              obtain ⟨g2, rfl⟩ := ofO_run r1
              cases r2 with
              | req g3 r2 =>
                obtain ⟨ds, st2, R3, W3, R4, W4, r3, r4, -, -⟩ := r2.bind_inv
                obtain ⟨g4, rfl⟩ := ofO_run r3
                cases r4 with
                | req g5 r4 =>
                  cases r4
                  subst g5
                  exact ⟨rfl, fun ha => .mp g c1 g2 g3 g4 ha⟩
          · cases c2
    · cases h
  | .sl r s i n, x, u, st, st', R, W, h => by
    unfold argP at h
    cases h with
    | req g h => cases h; subst g; exact ⟨rfl, fun ha => .ren ha⟩
  | .mp r s i j, x, u, st, st', R, W, h => by
    unfold argP at h
    cases h with
    | req g h => cases h; subst g; exact ⟨rfl, fun ha => .ren ha⟩
  | .clo f cs, x, u, st, st', R, W, h => by
    unfold argP at h
    cases h with
    | req g h => cases h; subst g; exact ⟨rfl, fun ha => .ren ha⟩
  | .tup cs, x, u, st, st', R, W, h => by
    unfold argP at h
    cases h with
    | req g h => cases h; subst g; exact ⟨rfl, fun ha => .ren ha⟩
  | .arr s xs, x, u, st, st', R, W, h => by
    unfold argP at h
    cases h with
    | req g h => cases h; subst g; exact ⟨rfl, fun ha => .ren ha⟩
theorem argsP_run {π : Nat → Nat} {L : List Nat} : ∀ {ys xs : List V} {u : Unit} {st st' : St} {R W : List Res}, Run (argsP π L ys xs) st u st' R W → st' = st ∧ ArgOk st π (· ∈ L) xs ys
  | [], xs, u, st, st', R, W, h => by
    unfold argsP at h
    split at h
    · cases h; exact ⟨rfl, .nil⟩
    · cases h
  | y :: ys, xs, u, st, st', R, W, h => by
    unfold argsP at h
    split at h
    · cases h
    · obtain ⟨u1, st1, R1, W1, R2, W2, r1, r2, -, -⟩ := h.bind_inv
      obtain ⟨e1, k1⟩ := argP_run r1
      subst e1
      obtain ⟨e2, k2⟩ := argsP_run r2
      exact ⟨e2, k1 k2⟩
end
theorem objsP_run {π : Nat → Nat} : ∀ {ps : List Nat} {os os' : List C} {u : Unit} {st st' : St} {R W : List Res}, Run (objsP π ps os os') st u st' R W → ps.Nodup →
    os.length = ps.length ∧ os'.length = ps.length ∧ (∀ (i : Nat) (p : Nat) (c : C), ps[i]? = some p → os[i]? = some c → st (.r p) = some (c.ren π)) ∧
    (∀ (i : Nat) (p : Nat) (c : C), ps[i]? = some p → os'[i]? = some c → st' (.r p) = some (c.ren π)) ∧ (∀ x, (∀ p ∈ ps, x ≠ .r p) → st' x = st x)
  | [], os, os', u, st, st', R, W, h, hn => by
    cases os <;> cases os' <;> simp only [objsP] at h <;> cases h
    exact ⟨rfl, rfl, by simp, by simp, fun _ _ => rfl⟩
  | p :: ps, os, os', u, st, st', R, W, h, hn => by
    cases os with
    | nil => cases os' <;> simp only [objsP] at h <;> cases h
    | cons o os =>
      cases os' with
      | nil => simp only [objsP] at h; cases h
      | cons o' os' =>
        simp only [objsP] at h
        cases h with
        | get c1 c2 =>
          cases c2 with
          | req g c2 =>
            cases c2 with
            | set c2 =>
              rw [List.nodup_cons] at hn
              obtain ⟨l1, l2, k1, k2, k3⟩ := objsP_run c2 hn.2
              refine ⟨by simp [l1], by simp [l2], ?_, ?_, ?_⟩
              · intro i q c hp hc
                cases i with
                | zero =>
                  simp only [List.getElem?_cons_zero, Option.some.injEq] at hp hc
                  subst hp; subst hc
                  rw [c1, g]
                | succ i =>
                  simp only [List.getElem?_cons_succ] at hp hc
                  have := k1 i q c hp hc
                  have hne : q ≠ p := fun e => hn.1 (e ▸ List.mem_of_getElem? hp)
                  rwa [upd, if_neg (by simpa using hne)] at this
              · intro i q c hp hc
                cases i with
                | zero =>
                  simp only [List.getElem?_cons_zero, Option.some.injEq] at hp hc
                  subst hp; subst hc
                  rw [k3 (.r p) (fun q hq e => hn.1 (by simp only [Res.r.injEq] at e; exact e ▸ hq))]
                  simp [upd]
                | succ i =>
                  simp only [List.getElem?_cons_succ] at hp hc
                  exact k2 i q c hp hc
              · intro x hx
                rw [k3 x (fun q hq => hx q (by simp [hq])), upd, if_neg (hx p (by simp))]
theorem outT_sound {nm : Nat} : ∀ {vs vs' : List V} {c : Nat} {st st' : St} {N : Nat → Prop} {ρ : Names} {F : Ix → List Nat} {pre : List V} {vals : List Value} {R W : List Res}, Run (outT nm vs c) st vs' st' R W →
    (∀ k, c ≤ k → k < c + cntT vs → ¬ N (nm + k)) → SatF Γ Z B ρ F N st (pre ++ (vs ++ ps)) vals X tm w →
    ∃ ρ' F', (∀ r, (∀ k, c ≤ k → k < c + cntT vs → r ≠ nm + k) → ρ' r = ρ r) ∧ SatF Γ Z B ρ' F' (fun r => N r ∨ (nm + c ≤ r ∧ r < nm + c + cntT vs)) st' (pre ++ (vs' ++ ps)) vals X tm w := by
  intro vs
  induction vs with
  | nil =>
    intro vs' c st st' N ρ F pre vals R W h hn hs
    simp only [outT] at h
    cases h
    exact ⟨ρ, F, fun _ _ => rfl, hs.weakN (fun _ x => .inl x)⟩
  | cons v vs ih =>
    intro vs' c st st' N ρ F pre vals R W h hn hs
    have one : ∀ {v1 : V} {ds : List V} {st1 : St} {R1 W1 R2 W2 : List Res}, cntT (v :: vs) = cntT vs + 1 → Run (nameP (nm + c) v) st v1 st1 R1 W1 → Run (outT nm vs (c + 1)) st1 ds st' R2 W2 → vs' = v1 :: ds →
        ∃ ρ' F', (∀ r, (∀ k, c ≤ k → k < c + cntT (v :: vs) → r ≠ nm + k) → ρ' r = ρ r) ∧ SatF Γ Z B ρ' F' (fun r => N r ∨ (nm + c ≤ r ∧ r < nm + c + cntT (v :: vs))) st' (pre ++ (vs' ++ ps)) vals X tm w := by
      intro v1 ds st1 R1 W1 R2 W2 hc r1 r3 e
      subst e
      rw [hc] at hn ⊢
      obtain ⟨ρ1, F1, a1, h1⟩ := name_sound (pre := pre) (ps := vs ++ ps) r1 (hn c (Nat.le_refl _) (by omega)) (by simpa using hs)
      obtain ⟨ρ2, F2, a2, h2⟩ := ih (pre := pre ++ [v1]) (N := fun r => N r ∨ r = nm + c) r3 (by
        intro k k1 k2 hk
        rcases hk with hk | hk
        · exact hn k (by omega) (by omega) hk
        · omega) (by simpa using h1)
      refine ⟨ρ2, F2, ?_, ?_⟩
      · intro r hr
        rw [a2 r (fun k k1 k2 => hr k (by omega) (by omega)), a1 r (hr c (Nat.le_refl _) (by omega))]
      · have : SatF Γ Z B ρ2 F2 (fun r => N r ∨ (nm + c ≤ r ∧ r < nm + c + (cntT vs + 1))) st' (pre ++ [v1] ++ (ds ++ ps)) vals X tm w := h2.weakN (by
          intro r hr
          rcases hr with (hr | hr) | hr
          · exact .inl hr
          · exact .inr ⟨by omega, by omega⟩
          · exact .inr ⟨by omega, by omega⟩)
        simpa using this
    cases v with
    | agg as =>
      simp only [outT] at h
      obtain ⟨bs, st1, R1, W1, R2, W2, r1, r2, -, -⟩ := h.bind_inv
      obtain ⟨ds, st2, R3, W3, R4, W4, r3, r4, -, -⟩ := r2.bind_inv
      cases r4
      simp only [cntT] at hn ⊢
      obtain ⟨va, vm, vc, Fa, Fm, Fc, rfl, e2, q1, q2, q3, n1, n2, n3⟩ := SatF.parts (pre := pre) (mid := [.agg as]) (ps := vs ++ ps) (by simpa using hs)
      cases q2 with
      | @agg _ us FF _ vs0 _ t1 t0 t2 =>
        cases t2
        obtain ⟨F1, _, h1⟩ := hs.rehand (ps' := pre ++ (as ++ (vs ++ ps))) (vals' := va ++ (us ++ vc)) (X' := X) (Fp' := Fa ++ (FF ++ Fc)) (RelVs.append q1 (RelVs.append t1 q3))
          (by rw [inNs_append, inNs_append]; exact ⟨n1, n2.1, n3⟩) (by rw [e2]; simp) (by rw [e2]; simp)
        obtain ⟨ρ1, F2, a1, h2⟩ := out_sound (pre := pre) (ps := vs ++ ps) r1 (fun k k1 k2 => hn k k1 (by omega)) h1
        have hl : us.length = bs.length := by
          have h3 := h2.lenPend
          have h4 := h1.lenPend
          have h5 := t1.length
          simp only [List.length_append] at h3 h4
          omega
        obtain ⟨Ga, Gm, Gc, e0, p1, p2, p3, m1, m2, m3⟩ := SatF.partsAt (pre := pre) (mid := bs) (ps := vs ++ ps) (va := va) (vm := us) (vc := vc) h2 q1.length.symm hl
        obtain ⟨F3, _, h3⟩ := h2.rehand (ps' := pre ++ ([.agg bs] ++ (vs ++ ps))) (vals' := va ++ ([.agg us.toArray] ++ vc)) (X' := X) (Fp' := Ga ++ ((Gm ++ []) ++ Gc)) (RelVs.append p1 (RelVs.append (RelVs.agg p2 t0 .nil) p3))
          (by rw [inNs_append, inNs_append]; exact ⟨m1, ⟨m2, trivial⟩, m3⟩) (by rw [e0]; simp) (by rw [e0]; simp)
        obtain ⟨ρ2, F4, a2, h4⟩ := ih (pre := pre ++ [.agg bs]) (N := fun r => N r ∨ (nm + c ≤ r ∧ r < nm + c + as.length)) r3 (by
          intro k k1 k2 hk
          rcases hk with hk | hk
          · exact hn k (by omega) (by omega) hk
          · omega) (by simpa using h3)
        refine ⟨ρ2, F4, ?_, ?_⟩
        · intro r hr
          rw [a2 r (fun k k1 k2 => hr k (by omega) (by omega)), a1 r (fun k k1 k2 => hr k k1 (by omega))]
        · have : SatF Γ Z B ρ2 F4 (fun r => N r ∨ (nm + c ≤ r ∧ r < nm + c + (as.length + cntT vs))) st' (pre ++ [.agg bs] ++ (ds ++ ps)) (va ++ ([.agg us.toArray] ++ vc)) X tm w := h4.weakN (by
            intro r hr
            rcases hr with (hr | hr) | hr
            · exact .inl hr
            · exact .inr ⟨by omega, by omega⟩
            · exact .inr ⟨by omega, by omega⟩)
          simpa using this
    | d x => simp only [outT] at h; obtain ⟨v1, st1, R1, W1, R2, W2, r1, r2, -, -⟩ := h.bind_inv; obtain ⟨ds, st2, R3, W3, R4, W4, r3, r4, -, -⟩ := r2.bind_inv; cases r4; exact one rfl r1 r3 rfl
    | sl r s i n => simp only [outT] at h; obtain ⟨v1, st1, R1, W1, R2, W2, r1, r2, -, -⟩ := h.bind_inv; obtain ⟨ds, st2, R3, W3, R4, W4, r3, r4, -, -⟩ := r2.bind_inv; cases r4; exact one rfl r1 r3 rfl
    | mp r s i j => simp only [outT] at h; obtain ⟨v1, st1, R1, W1, R2, W2, r1, r2, -, -⟩ := h.bind_inv; obtain ⟨ds, st2, R3, W3, R4, W4, r3, r4, -, -⟩ := r2.bind_inv; cases r4; exact one rfl r1 r3 rfl
    | clo f as => simp only [outT] at h; obtain ⟨v1, st1, R1, W1, R2, W2, r1, r2, -, -⟩ := h.bind_inv; obtain ⟨ds, st2, R3, W3, R4, W4, r3, r4, -, -⟩ := r2.bind_inv; cases r4; exact one rfl r1 r3 rfl
    | tup as => simp only [outT] at h; obtain ⟨v1, st1, R1, W1, R2, W2, r1, r2, -, -⟩ := h.bind_inv; obtain ⟨ds, st2, R3, W3, R4, W4, r3, r4, -, -⟩ := r2.bind_inv; cases r4; exact one rfl r1 r3 rfl
    | arr s xs => simp only [outT] at h; obtain ⟨v1, st1, R1, W1, R2, W2, r1, r2, -, -⟩ := h.bind_inv; obtain ⟨ds, st2, R3, W3, R4, W4, r3, r4, -, -⟩ := r2.bind_inv; cases r4; exact one rfl r1 r3 rfl
theorem nameAll_sound {nm : Nat} {v v' : V} {val : Value} {R W : List Res} (hr : Run (nameAll nm v) st v' st' R W) (hf : ∀ r, nm ≤ r → r < nm + 64 → ¬ N r)
    (h : SatF Γ Z B ρ F N st (v :: ps) (val :: vals) X tm w) : ∃ ρ' F', SatF Γ Z B ρ' F' (Nx nm N) st' (v' :: ps) (val :: vals) X tm w := by
  unfold nameAll at hr
  split at hr
  · rename_i cs
    obtain ⟨r, st1, R1, W1, R2, W2, r1, r2, -, -⟩ := hr.bind_inv
    cases r2 with
    | req g r2 =>
      cases r2
      obtain ⟨G, H, e, g1, g2, n1, n2⟩ := h.headF
      cases g1 with
      | tup t1 t2 =>
        cases t2
        rename_i us FF
        obtain ⟨F1, _, h1⟩ := h.rehand (ps' := cs ++ ps) (vals' := us ++ vals) (X' := X) (Fp' := FF ++ H) (RelVs.append t1 g2) (by rw [inNs_append]; exact ⟨n1, n2⟩) (by rw [e]; simp) (by rw [e]; simp)
        obtain ⟨ρ', F2, _, h2⟩ := outT_sound (pre := []) r1 (fun k k1 k2 => hf _ (by omega) (by omega)) h1
        have hl : us.length = r.length := by
          have := h2.lenPend
          have := g2.length
          simp at *
          omega
        obtain ⟨Fa, Fm, Fc, e0, q1, q2, q3, m1, m2, m3⟩ := SatF.partsAt (pre := []) (mid := r) (ps := ps) (va := []) (vm := us) (vc := vals) h2 rfl hl
        cases q1
        obtain ⟨F3, _, h3⟩ := h2.rehand (ps' := .tup r :: ps) (vals' := .tuple us.toArray :: vals) (X' := X) (Fp' := Fm ++ Fc) (RelVs.tup q2 q3) ⟨m2, m3⟩ (by rw [e0]; simp) (by rw [e0]; simp)
        exact ⟨ρ', F3, h3.weakN (fun r hr => hr.imp id (fun hh => by omega))⟩
  · rename_i cs
    obtain ⟨r, st1, R1, W1, R2, W2, r1, r2, -, -⟩ := hr.bind_inv
    cases r2 with
    | req g r2 =>
      cases r2
      obtain ⟨G, H, e, g1, g2, n1, n2⟩ := h.headF
      cases g1 with
      | agg t1 t0 t2 =>
        cases t2
        rename_i us FF
        obtain ⟨F1, _, h1⟩ := h.rehand (ps' := cs ++ ps) (vals' := us ++ vals) (X' := X) (Fp' := FF ++ H) (RelVs.append t1 g2) (by rw [inNs_append]; exact ⟨n1, n2⟩) (by rw [e]; simp) (by rw [e]; simp)
        obtain ⟨ρ', F2, _, h2⟩ := out_sound (pre := []) r1 (fun k k1 k2 => hf _ (by omega) (by omega)) h1
        have hl : us.length = r.length := by
          have := h2.lenPend
          have := g2.length
          simp at *
          omega
        obtain ⟨Fa, Fm, Fc, e0, q1, q2, q3, m1, m2, m3⟩ := SatF.partsAt (pre := []) (mid := r) (ps := ps) (va := []) (vm := us) (vc := vals) h2 rfl hl
        cases q1
        obtain ⟨F3, _, h3⟩ := h2.rehand (ps' := .agg r :: ps) (vals' := .agg us.toArray :: vals) (X' := X) (Fp' := Fm ++ Fc) (RelVs.agg q2 t0 q3) ⟨m2, m3⟩ (by rw [e0]; simp) (by rw [e0]; simp)
        exact ⟨ρ', F3, h3.weakN (fun r hr => hr.imp id (fun hh => by omega))⟩
  · obtain ⟨ρ', F1, _, h1⟩ := name_sound (pre := []) hr (hf nm (by omega) (by omega)) h
    exact ⟨ρ', F1, h1.weakN Nx_one⟩
theorem call_ok {o : Oper} {nm : Nat} {v : V} {R W : List Res} {x : Operand} {args : Array Operand} {ts : Array TypeId} (ho : o.op = .call { callee := .value x, args := args, argTypes := ts })
    (hr : Run ((fetchP x).bind fun v => match v with
    | .clo f cs => (fetchAll args.toList).bind fun vs => callP P nm f (vs ++ cs)
    | _ => .fail) st v st' R W) : OpOk P o nm st v st' := by
  rintro Γ N a w ⟨Z, B, ρ, F, h⟩ hf K Q hk
  obtain ⟨va, st1, R1, W1, R2, W2, r1, r2, -, -⟩ := hr.bind_inv
  obtain ⟨F1, h1⟩ := fetch_sound r1 (rfl : a.tmps = a.tmps) h
  split at r2
  · rename_i f cs
    obtain ⟨vs, st2, R3, W3, R4, W4, r3, r4, -, -⟩ := r2.bind_inv
    obtain ⟨F2, h2, hl2⟩ := fetchAll_sound _ _ _ _ _ _ F1 _ _ r3 h1
    unfold callP at r4
    cases r4 with
    | any g r5 =>
      rename_i c
      obtain ⟨u1, st3, R5, W5, R6, W6, r6, r7, -, -⟩ := r5.bind_inv
      obtain ⟨u2, st4, R7, W7, R8, W8, r8, r9, -, -⟩ := r7.bind_inv
      obtain ⟨hc, hnd, hap, hnb⟩ := g
      obtain ⟨e, ha⟩ := argsP_run r6
      subst e
      obtain ⟨l1, l2, k1, k2, k3⟩ := objsP_run r8 hnd
      -- the closure's captured values
      obtain ⟨Fa, Fm, Fc, e0, q1, q2, q3, n1, n2, n3⟩ := SatF.partsAt (pre := vs) (mid := [.clo f cs]) (ps := []) (va := args.toList.map a.eval) (vm := [a.eval x]) (vc := []) (by simpa using h2) (by simp [hl2]) rfl
      generalize hx : a.eval x = val at q2
      cases q2 with
      | clo t1 t2 =>
        cases t2
        rename_i us FF
        cases q3
        obtain ⟨F3, _, h3⟩ := h2.rehand (ps' := (vs ++ cs) ++ []) (vals' := (args.toList.map a.eval ++ us) ++ []) (X' := []) (Fp' := (Fa ++ FF) ++ []) (RelVs.append (RelVs.append q1 t1) .nil)
          (by rw [inNs_append, inNs_append]; exact ⟨⟨n1, n2.1⟩, trivial⟩) (by rw [e0]; simp) (by rw [e0]; simp)
        have hpi : ∀ i, i < c.objs.length → c.pi[i]? = some (c.π i) := fun i hi => by
          have : i < c.pi.length := by omega
          simp [CallW.π, List.getD, this]
        have hcall := call_core (st' := st4) (π := c.π) (L := (· ∈ c.lent)) hc h3 (by have := h3.lenPend; simpa using this.symm) ha
          (fun i o' ho' => k1 i _ o' (hpi i (List.getElem?_eq_some_iff.1 ho').1) ho')
          (fun i j hi hj e => by
            have h1 := hpi i hi
            have h2 := hpi j hj
            rw [e] at h1
            obtain ⟨a1, a2⟩ := List.getElem?_eq_some_iff.1 h1
            obtain ⟨b1, b2⟩ := List.getElem?_eq_some_iff.1 h2
            have hp := List.pairwise_iff_getElem.1 hnd
            rcases Nat.lt_trichotomy i j with hlt | rfl | hlt
            · exact absurd (a2.trans b2.symm) (hp i j a1 b1 hlt)
            · rfl
            · exact absurd (b2.trans a2.symm) (hp j i b1 a1 hlt))
          (fun i hi => hap _ (List.mem_of_getElem? (hpi i hi)))
          (hnb.imp (fun e r => by rw [e]; simp) id)
          (fun i o' ho' => k2 i _ o' (hpi i (by have := (List.getElem?_eq_some_iff.1 ho').1; rw [hc.len] at this; exact this)) ho')
          (fun x hx => k3 x (fun p hp => by
            obtain ⟨i, hi, rfl⟩ := List.mem_iff_getElem.1 hp
            have hi' : i < c.objs.length := by omega
            have := hpi i hi'
            rw [List.getElem?_eq_getElem hi] at this
            simp only [Option.some.injEq] at this
            rw [this]
            exact hx i hi'))
        unfold Oper.wp
        have hrun : (execOp a.eval o).run P w = .ok (.enter f (args.toList.map a.eval ++ us).toArray) w := by
          have e1 : args.map a.eval ++ us.toArray = (args.toList.map a.eval ++ us).toArray := by apply Array.ext'; simp
          simp [execOp, ho, resolve, hx, Deferred.ofValue, invoke, e1, hc.enters]
        rw [hrun]
        refine Calls.mono hcall ?_
        rintro e w' ⟨val, Z', B', F', rfl, h4⟩
        obtain ⟨ρ', F5, h5⟩ := nameAll_sound r9 hf h4
        exact hk _ _ h5.satP
  · cases r2
end
theorem arr_one {α : Type} {xs : Array α} {x : α} (h : xs.toList = [x]) : xs = #[x] := by apply Array.ext'; simpa using h
theorem arr_two {α : Type} {xs : Array α} {x y : α} (h : xs.toList = [x, y]) : xs = #[x, y] := by apply Array.ext'; simpa using h
theorem opP_ok {P : Program} {o : Oper} {op : Op} {nm : Nat} {st st' : St} {v : V} {R W : List Res} (ho : o.op = op) (hr : Run (opP P nm op) st v st' R W) : OpOk P o nm st v st' := by
  unfold opP at hr
  split at hr
  · exact move_ok (.inl ho) hr
  · exact move_ok (.inr ho) hr
  · exact pick_ok ho hr
  · exact alloc_ok ho hr
  · exact box_ok ho hr
  · exact build_ok ho hr
  · exact buildSlice_ok ho hr
  · exact load_ok ho hr
  · exact store_ok ho hr
  · exact nilCheck_ok ho hr
  · exact binOp_ok ho (by unfold opP; exact hr)
  · exact unOp_ok ho hr
  · exact convert_ok ho hr
  · exact makeFunc_ok ho hr
  · exact makeSlice_ok ho hr
  · exact slice_ok ho hr
  · exact fieldAddr_ok ho hr
  · exact field_ok ho hr
  · exact indexAddr_ok ho hr
  · exact index_ok ho hr
  · exact extract_ok ho hr
  · split at hr
    · rename_i h1 h2
      rw [arr_one h1, arr_one h2] at ho
      exact len_ok ho hr
    · cases hr
  · split at hr
    · rename_i h1 h2
      rw [arr_two h1, arr_two h2] at ho
      exact append_ok ho hr
    · cases hr
  · split at hr
    · rename_i h1
      rw [arr_two h1] at ho
      exact minmax_ok (mx := false) ho hr
    · cases hr
  · split at hr
    · rename_i h1
      rw [arr_two h1] at ho
      exact minmax_ok (mx := true) ho hr
    · cases hr
  · cases hr
theorem opC_ok {P : Program} {o : Oper} {nm : Nat} {st st' : St} {v : V} {R W : List Res} (hr : Run (opC P nm o.op) st v st' R W) : OpOk P o nm st v st' := by
  generalize ho : o.op = op at hr
  unfold opC at hr
  split at hr
  · exact call_ok ho hr
  · split at hr
    · rename_i h1 h2
      rw [arr_two h1, arr_two h2] at ho
      exact copy_ok ho hr
    · cases hr
  · exact opP_ok ho hr
def resSlotP (t : Nat) : Prog Unit := .get (.s t) fun c => match c with
  | .v x => .set (.s t) none ((match x with
    | .agg cs => (resRow cs).bind fun ds => .ret (V.agg (ds.map V.d))
    | x => (resV 7 x).bind fun d => .ret (V.d d)).bind fun v => .set (.s t) (some (.v v)) (.ret ()))
  | _ => .fail
section
variable {P : Program} {Γ : Ctx} {Z B : Zone} {ρ : Names} {F : Ix → List Nat} {N : Nat → Prop} {st st' : St} {ps : List V} {vals : List Value} {X : List Nat} {tm : Array Value} {w : World}
theorem SatF.put {d : Nat} {v : V} {val : Value} (h : SatF Γ Z B ρ F N st (v :: ps) (val :: vals) X tm w) (hd : d < tm.size) :
    ∃ F', SatF Γ Z B ρ F' N (upd st (.s d) (some (.v v))) ps vals X (tm.setIfInBounds d val) w := by
  obtain ⟨G, H, e, g1, g2, n1, n2⟩ := h.headF
  have hnd := h.nodup none
  rw [e] at hnd
  refine ⟨fun x => if x = none then H ++ X else if x = some (.s d) then G else F x, ?_⟩
  refine h.step [none, some (.s d)] (by simp) (Grow.refl w) (fun _ _ _ => rfl) ?_ ?_ ?_ (by simp) (fun _ x => x) (fun _ _ => rfl) (fun _ x => x) (fun _ x => x) h.zB (fun _ x => .inl x) (fun _ x => .inl x) ?_ ?_ ?_ ?_ ?_ ?_
  · intro x hx
    simp only [List.mem_cons, reduceCtorEq, Option.some.injEq, List.not_mem_nil, or_false, false_or] at hx
    simp [upd, hx]
  · intro x hx
    simp only [List.mem_cons, List.not_mem_nil, or_false, not_or] at hx
    simp [hx.1, hx.2]
  · intro s hs hlt
    simp only [List.mem_cons, reduceCtorEq, Option.some.injEq, Res.s.injEq, List.not_mem_nil, or_false, false_or] at hs
    have hne : ¬ d = s := fun e => hs e.symm
    simp [hlt, Array.getD_eq_getD_getElem?, Array.getElem?_setIfInBounds, hne]
  · intro s c hs hc
    simp only [List.mem_cons, reduceCtorEq, Option.some.injEq, Res.s.injEq, List.not_mem_nil, or_false, false_or] at hs
    subst hs
    simp [upd] at hc
    subst hc
    refine ⟨by simpa using hd, v, rfl, ?_, n1⟩
    simpa [Array.getD_eq_getD_getElem?, Array.getElem?_setIfInBounds, hd] using g1
  · intro r c hs; simp at hs
  · intro _
    exact ⟨⟨H, by simp, g2⟩, n2⟩
  · intro x hx hn
    simp only [List.mem_cons, reduceCtorEq, Option.some.injEq, List.not_mem_nil, or_false, false_or] at hx
    subst hx
    simp [upd] at hn
  · simp only [List.flatMap_cons, List.flatMap_nil, List.append_nil, if_true, reduceCtorEq, if_false]
    rw [List.nodup_iff_count] at hnd ⊢; intro t; have hnd := hnd t; simp only [List.count_append, List.count_cons, List.count_nil] at hnd ⊢; omega
  · intro b hb
    simp only [List.flatMap_cons, List.flatMap_nil, List.append_nil, if_true, reduceCtorEq, if_false, List.mem_append] at hb
    have hm : b ∈ F none := by rw [e]; simp only [List.mem_append]; grind
    refine ⟨.inl ?_, (h.own none b hm).2.1, (h.own none b hm).1⟩
    simp only [List.flatMap_cons, List.flatMap_nil, List.append_nil, List.mem_append]
    exact .inl hm
theorem SatF.take {t : Nat} {v : V} (h : SatF Γ Z B ρ F N st ps vals X tm w) (hs : st (.s t) = some (.v v)) :
    t < tm.size ∧ ∃ F', SatF Γ Z B ρ F' N (upd st (.s t) none) (v :: ps) (tm.getD t undef :: vals) X tm w := by
  obtain ⟨h1, v', e, g1, g2⟩ := h.slot t _ hs
  cases e
  refine ⟨h1, ?_⟩
  obtain ⟨⟨Fp, p1, p2⟩, p3⟩ := h.pend
  have hnd := h.nd (xs := [none, some (.s t)]) (by simp)
  simp only [List.flatMap_cons, List.flatMap_nil, List.append_nil, p1] at hnd
  refine ⟨fun x => if x = none then (F (some (.s t)) ++ Fp) ++ X else if x = some (.s t) then [] else F x, ?_⟩
  refine h.step [none, some (.s t)] (by simp) (Grow.refl w) (fun _ _ _ => rfl) ?_ ?_ (fun _ _ hs => ⟨hs, rfl⟩) (by simp) (fun _ x => x) (fun _ _ => rfl) (fun _ x => x) (fun _ x => x) h.zB (fun _ x => .inl x) (fun _ x => .inl x) ?_ ?_ ?_ ?_ ?_ ?_
  · intro x hx
    simp only [List.mem_cons, reduceCtorEq, Option.some.injEq, List.not_mem_nil, or_false, false_or] at hx
    simp [upd, hx]
  · intro x hx
    simp only [List.mem_cons, List.not_mem_nil, or_false, not_or] at hx
    simp [hx.1, hx.2]
  · intro s c hs' hc
    simp only [List.mem_cons, reduceCtorEq, Option.some.injEq, Res.s.injEq, List.not_mem_nil, or_false, false_or] at hs'
    subst hs'
    simp [upd] at hc
  · intro r c hs'; simp at hs'
  · intro _
    exact ⟨⟨F (some (.s t)) ++ Fp, by simp, RelVs.append g1 p2⟩, g2, p3⟩
  · intro x hx hn
    simp only [List.mem_cons, reduceCtorEq, Option.some.injEq, List.not_mem_nil, or_false, false_or] at hx
    subst hx
    simp
  · simp only [List.flatMap_cons, List.flatMap_nil, List.append_nil, if_true, reduceCtorEq, if_false]
    rw [List.nodup_iff_count] at hnd ⊢; intro t; have hnd := hnd t; simp only [List.count_append, List.count_cons, List.count_nil] at hnd ⊢; omega
  · intro b hb
    simp only [List.flatMap_cons, List.flatMap_nil, List.append_nil, if_true, reduceCtorEq, if_false, List.mem_append] at hb
    have hm : b ∈ F none ∨ b ∈ F (some (.s t)) := by rw [p1]; simp only [List.mem_append]; grind
    refine ⟨.inl (by simpa using hm), ?_⟩
    rcases hm with hm | hm
    · exact ⟨(h.own none b hm).2.1, (h.own none b hm).1⟩
    · exact ⟨(h.own _ b hm).2.1, (h.own _ b hm).1⟩
theorem setget (tm : Array Value) (t : Nat) : tm.setIfInBounds t (tm.getD t undef) = tm := by
  apply Array.ext
  · simp
  · intro i h1 h2
    simp only [Array.size_setIfInBounds] at h1
    rw [Array.getElem_setIfInBounds]
    split
    · rename_i e
      subst e
      simp [Array.getD, h1]
    · rfl
theorem resRow_sound {vs : List V} {ds : List D} {R W : List Res} (hr : Run (resRow vs) st ds st' R W) (h : SatF Γ Z B ρ F N st (vs ++ ps) vals X tm w) :
    ds.length = vs.length ∧ ∃ F', SatF Γ Z B ρ F' N st' (ds.map V.d ++ ps) vals X tm w :=
  (res_sound 6).2.1 vs ds st st' R W [] ps vals X F hr h
theorem resAny_sound {x v : V} {R W : List Res} (hr : Run (match x with
    | .agg cs => (resRow cs).bind fun ds => .ret (V.agg (ds.map V.d))
    | x => (resV 7 x).bind fun d => .ret (V.d d)) st v st' R W) {val : Value} (h : SatF Γ Z B ρ F N st (x :: ps) (val :: vals) X tm w) :
    ∃ F', SatF Γ Z B ρ F' N st' (v :: ps) (val :: vals) X tm w := by
  split at hr
  · rename_i cs
    obtain ⟨ds, st1, R1, W1, R2, W2, r1, r2, -, -⟩ := hr.bind_inv
    cases r2
    obtain ⟨G, H, e, g1, g2, n1, n2⟩ := h.headF
    cases g1 with
    | agg t1 t0 t2 =>
      cases t2
      rename_i us FF
      obtain ⟨F1, _, h1⟩ := h.rehand (ps' := cs ++ ps) (vals' := us ++ vals) (X' := X) (Fp' := FF ++ H) (RelVs.append t1 g2) (by rw [inNs_append]; exact ⟨n1, n2⟩) (by rw [e]; simp) (by rw [e]; simp)
      obtain ⟨hl, F2, h2⟩ := resRow_sound r1 h1
      obtain ⟨Fa, Fm, Fc, e0, q1, q2, q3, m1, m2, m3⟩ := SatF.partsAt (pre := []) (mid := ds.map V.d) (ps := ps) (va := []) (vm := us) (vc := vals) h2 rfl (by rw [List.length_map, hl, ← t1.length])
      cases q1
      obtain ⟨F3, _, h3⟩ := h2.rehand (ps' := .agg (ds.map V.d) :: ps) (vals' := .agg us.toArray :: vals) (X' := X) (Fp' := Fm ++ Fc) (RelVs.agg q2 t0 q3) ⟨m2, m3⟩ (by rw [e0]; simp) (by rw [e0]; simp)
      exact ⟨F3, h3⟩
  · obtain ⟨d, st1, R1, W1, R2, W2, r1, r2, -, -⟩ := hr.bind_inv
    cases r2
    exact (res_sound 7).1 _ _ _ _ _ _ [] ps _ X F r1 h
end
def preP : List (Nat × Option Nat) → Prog Unit
  | [] => .ret ()
  | (r, none) :: l => .get (.r r) fun c => match c with
    | .o s xs => .set (.r r) none ((resRows xs).bind fun ds => .set (.r r) (some (.o s (dd ds))) (preP l))
    | _ => .fail
  | (r, some j) :: l => if j = 99999 then (resSlotP r).bind fun _ => preP l else .get (.r r) fun c => match c with
    | .o s [row] => (Prog.ofO row[j]?).bind fun v => .set (.r r) none ((resV 6 v).bind fun d => .set (.r r) (some (.o s [row.set j (.d d)])) (preP l))
    | _ => .fail
def opL (P : Program) (nm : Nat) (op : Op) (l : List (Nat × Option Nat)) : Prog V := (preP l).bind fun _ => opC P nm op
theorem res_none : ∀ (n : Nat),
    (∀ (v : V) (d : D) (st st' : St) (R W : List Res), Run (resV n v) st d st' R W → ∀ x, st x = none → st' x = none) ∧
    (∀ (vs : List V) (ds : List D) (st st' : St) (R W : List Res), Run (resV.gol n vs) st ds st' R W → ∀ x, st x = none → st' x = none) ∧
    (∀ (vs : List (List V)) (ds : List (List D)) (st st' : St) (R W : List Res), Run (resV.go n vs) st ds st' R W → ∀ x, st x = none → st' x = none) := by
  have lists : ∀ n, (∀ (v : V) (d : D) (st st' : St) (R W : List Res), Run (resV n v) st d st' R W → ∀ x, st x = none → st' x = none) →
      (∀ (vs : List V) (ds : List D) (st st' : St) (R W : List Res), Run (resV.gol n vs) st ds st' R W → ∀ x, st x = none → st' x = none) ∧
      (∀ (vs : List (List V)) (ds : List (List D)) (st st' : St) (R W : List Res), Run (resV.go n vs) st ds st' R W → ∀ x, st x = none → st' x = none) := by
    intro n hV
    have h1 : ∀ (vs : List V) (ds : List D) (st st' : St) (R W : List Res), Run (resV.gol n vs) st ds st' R W → ∀ x, st x = none → st' x = none := by
      intro vs
      induction vs with
      | nil => intro ds st st' R W hr x hx; simp only [resV.gol] at hr; cases hr; exact hx
      | cons v vs ih =>
        intro ds st st' R W hr x hx
        simp only [resV.gol] at hr
        obtain ⟨d, st1, R1, W1, R2, W2, r1, r2, -, -⟩ := hr.bind_inv
        obtain ⟨ds', st2, R3, W3, R4, W4, r3, r4, -, -⟩ := r2.bind_inv
        cases r4
        exact ih _ _ _ _ _ r3 x (hV _ _ _ _ _ _ r1 x hx)
    refine ⟨h1, ?_⟩
    intro vs
    induction vs with
    | nil => intro ds st st' R W hr x hx; simp only [resV.go] at hr; cases hr; exact hx
    | cons v vs ih =>
      intro ds st st' R W hr x hx
      simp only [resV.go] at hr
      obtain ⟨d, st1, R1, W1, R2, W2, r1, r2, -, -⟩ := hr.bind_inv
      obtain ⟨ds', st2, R3, W3, R4, W4, r3, r4, -, -⟩ := r2.bind_inv
      cases r4
      exact ih _ _ _ _ _ r3 x (h1 _ _ _ _ _ _ r1 x hx)
  intro n
  induction n with
  | zero =>
    have h0 : ∀ (v : V) (d : D) (st st' : St) (R W : List Res), Run (resV 0 v) st d st' R W → ∀ x, st x = none → st' x = none := by
      intro v d st st' R W hr; simp only [resV] at hr; cases hr
    exact ⟨h0, lists 0 h0⟩
  | succ n ih =>
    have h0 : ∀ (v : V) (d : D) (st st' : St) (R W : List Res), Run (resV (n + 1) v) st d st' R W → ∀ x, st x = none → st' x = none := by
      intro v d st st' R W hr x hx
      have upn : ∀ (s : St) (r : Res), s x = none → upd s r none x = none := by
        intro s r h; simp only [upd]; split <;> first | rfl | exact h
      unfold resV at hr
      split at hr
      · cases hr; exact hx
      · cases hr with
        | get c1 c2 =>
          dsimp only at c2
          split at c2
          · cases c2 with
            | req g c2 =>
              cases c2 with
              | set c2 =>
                obtain ⟨d, st1, R1, W1, R2, W2, r1, r2, -, -⟩ := c2.bind_inv
                cases r2
                exact ih.2.2 _ _ _ _ _ _ r1 x (upn _ _ hx)
          · cases c2
      · cases hr with
        | get c1 c2 =>
          dsimp only at c2
          split at c2
          · cases c2 with
            | set c2 =>
              obtain ⟨d, st1, R1, W1, R2, W2, r1, r2, -, -⟩ := c2.bind_inv
              cases r2
              exact ih.2.1 _ _ _ _ _ _ r1 x (upn _ _ hx)
          · cases c2
      · obtain ⟨d, st1, R1, W1, R2, W2, r1, r2, -, -⟩ := hr.bind_inv
        cases r2
        exact ih.2.2 _ _ _ _ _ _ r1 x hx
      · cases hr
    exact ⟨h0, lists (n + 1) h0⟩
section
variable {P : Program} {Γ : Ctx} {Z B : Zone} {ρ : Names} {F : Ix → List Nat} {N : Nat → Prop} {st st' : St} {tm : Array Value} {w : World}
theorem resObj_sound {r s : Nat} {xs : List (List V)} {ds : List (List D)} {R W : List Res} (hs : SatF Γ Z B ρ F N st [] [] [] tm w) (hst : st (.r r) = some (.o s xs))
    (r1 : Run (resRows xs) (upd st (.r r) none) ds st' R W) : ∃ F', SatF Γ Z B ρ F' N (upd st' (.r r) (some (.o s (dd ds)))) [] [] [] tm w := by
  obtain ⟨hN, hO, hin⟩ := hs.obj r _ hst
  have hst1 : st' (.r r) = none := (res_none 6).2.2 _ _ _ _ _ _ r1 _ (by simp [upd])
  generalize hG : F (some (.r r)) = G at hO
  cases hO with
  | none t1 =>
    unfold resRows at r1
    simp only [resV.go] at r1
    cases r1
    refine ⟨F, ?_⟩
    have e : upd (upd st (.r r) none) (.r r) (some (.o s (dd []))) = st := by
      funext x
      simp only [upd]
      split
      · rename_i e; rw [e, hst]; rfl
      · rfl
    rw [e]
    exact hs
  | @some _ b o _ us FG hρ hrel hone hrange hblk huni =>
    obtain ⟨F1, f1, h1⟩ := hs.regroup (r := r) (ps' := xs.flatten ++ []) (vals' := us ++ []) (X' := [b]) (Fp' := FG ++ []) hG (RelVs.append hrel .nil)
      (by rw [inNs_append]; exact ⟨inNss_flatten hin, trivial⟩)
      (by intro hh; rw [List.nodup_iff_count] at hh ⊢; intro t; have hh := hh t; simp only [List.count_append, List.count_cons, List.count_nil] at hh ⊢; omega)
      (by intro x hx; simp only [List.mem_append, List.mem_cons] at hx ⊢; grind)
    obtain ⟨hmap, F2, h2⟩ := (res_sound 6).2.2 xs ds _ _ _ _ [] [] _ _ F1 r1 (by simpa using h1)
    have hfl : (dd ds).flatten = ds.flatten.map V.d := dd_flatten ds
    have hlen : ds.length = xs.length := by
      have := congrArg List.length hmap
      simpa using this
    have hul : us.length = ((dd ds).flatten).length := by
      rw [hfl]
      have := h2.lenPend
      simp only [List.length_append, List.length_map, List.length_nil, List.nil_append] at this ⊢
      omega
    obtain ⟨F3, h3⟩ := SatF.close (r := r) (s := s) (o := o) (xs := dd ds) (us := us) (vc := []) (ps := []) (X := []) (by rw [hfl]; simpa using h2)
      hul hN hst1 hρ hone hrange (by rw [dd_length, hlen]; exact hblk)
      (by
        intro x hx
        obtain ⟨y, hy, rfl⟩ := List.mem_map.1 hx
        rw [List.length_map]
        have : y.length ∈ ds.map List.length := List.mem_map_of_mem hy
        rw [hmap] at this
        obtain ⟨z, hz, e⟩ := List.mem_map.1 this
        rw [← e]; exact huni z hz)
      (inNss_iff.2 fun x hx => by
        obtain ⟨y, hy, rfl⟩ := List.mem_map.1 hx
        exact inNs_map_d _)
    exact ⟨F3, h3⟩
theorem row_split {α : Type} {row : List α} {j : Nat} {v : α} (h : row[j]? = some v) (d : α) : row = row.take j ++ v :: row.drop (j + 1) ∧ row.set j d = row.take j ++ d :: row.drop (j + 1) ∧ j < row.length := by
  obtain ⟨hlt, e⟩ := List.getElem?_eq_some_iff.1 h
  refine ⟨?_, List.set_eq_take_append_cons_drop .. |>.trans (by rw [if_pos hlt]), hlt⟩
  subst e
  rw [List.getElem_cons_drop, List.take_append_drop]
theorem resCell_sound {r s j : Nat} {row : List V} {v : V} {d : D} {R W : List Res} (hs : SatF Γ Z B ρ F N st [] [] [] tm w) (hst : st (.r r) = some (.o s [row])) (hj : row[j]? = some v)
    (r1 : Run (resV 6 v) (upd st (.r r) none) d st' R W) : ∃ F', SatF Γ Z B ρ F' N (upd st' (.r r) (some (.o s [row.set j (.d d)]))) [] [] [] tm w := by
  obtain ⟨hN, hO, hin⟩ := hs.obj r _ hst
  have hst1 : st' (.r r) = none := (res_none 6).1 _ _ _ _ _ _ r1 _ (by simp [upd])
  obtain ⟨e1, e2, hlt⟩ := row_split hj (V.d d)
  generalize hG : F (some (.r r)) = G at hO
  cases hO with
  | @some _ b o _ us FG hρ hrel hone hrange hblk huni =>
    simp only [List.flatten_cons, List.flatten_nil, List.append_nil] at hrel
    have hinr : V.inNs N row := hin.1
    obtain ⟨F1, f1, h1⟩ := hs.regroup (r := r) (ps' := row ++ []) (vals' := us ++ []) (X' := [b]) (Fp' := FG ++ []) hG (RelVs.append hrel .nil)
      (by rw [inNs_append]; exact ⟨hinr, trivial⟩)
      (by intro hh; rw [List.nodup_iff_count] at hh ⊢; intro t; have hh := hh t; simp only [List.count_append, List.count_cons, List.count_nil] at hh ⊢; omega)
      (by intro x hx; simp only [List.mem_append, List.mem_cons] at hx ⊢; grind)
    rw [e1] at h1
    obtain ⟨F2, h2⟩ := (res_sound 6).1 v d _ _ _ _ (row.take j) (row.drop (j + 1)) _ _ F1 r1 (by simpa using h1)
    rw [← e2] at h2
    have hul : us.length = (row.set j (.d d)).length := by
      have := hrel.length
      rw [List.length_set]; omega
    have hsl : row.length = s := huni row (by simp)
    obtain ⟨F3, h3⟩ := SatF.close (r := r) (s := s) (o := o) (xs := [row.set j (.d d)]) (us := us) (vc := []) (ps := []) (X := []) (by simpa using h2)
      (by simpa using hul) hN hst1 hρ hone hrange (by simpa using hblk) (by intro x hx; simp at hx; subst hx; rw [List.length_set]; exact hsl)
      (by
        refine ⟨?_, trivial⟩
        rw [e2, inNs_append]
        rw [e1, inNs_append] at hinr
        exact ⟨hinr.1, trivial, hinr.2.2⟩)
    exact ⟨F3, h3⟩
theorem resSlot_sound {t : Nat} {u : Unit} {R W : List Res} (h1 : Run (resSlotP t) st u st' R W) (hs : SatF Γ Z B ρ F N st [] [] [] tm w) : ∃ F', SatF Γ Z B ρ F' N st' [] [] [] tm w := by
  unfold resSlotP at h1
  cases h1 with
  | @get _ _ _ _ c _ _ _ c1 c2 =>
    dsimp only at c2
    split at c2
    · cases c2 with
      | set c2 =>
        obtain ⟨v, st1, R1, W1, R2, W2, r1, r2, -, -⟩ := c2.bind_inv
        obtain ⟨hlt, F1, h1⟩ := hs.take c1
        obtain ⟨F2, h2⟩ := resAny_sound r1 h1
        generalize hfin : st' = fin at r2
        cases r2 with
        | set r2 =>
          cases r2
          obtain ⟨F3, h3⟩ := h2.put hlt
          rw [setget] at h3
          exact ⟨F3, h3⟩
    · cases c2
theorem pre_sound : ∀ (l : List (Nat × Option Nat)) (st st' : St) (u : Unit) (R W : List Res) (F : Ix → List Nat), Run (preP l) st u st' R W → SatF Γ Z B ρ F N st [] [] [] tm w → ∃ F', SatF Γ Z B ρ F' N st' [] [] [] tm w
  | [], st, st', u, R, W, F, hr, h => by
    simp only [preP] at hr
    cases hr
    exact ⟨F, h⟩
  | (r, none) :: l, st, st', u, R, W, F, hr, h => by
    simp only [preP] at hr
    cases hr with
    | get c1 c2 =>
      dsimp only at c2
      split at c2
      · cases c2 with
        | set c2 =>
          obtain ⟨ds, st1, R1, W1, R2, W2, r1, r2, -, -⟩ := c2.bind_inv
          obtain ⟨F1, h1⟩ := resObj_sound h c1 r1
          cases r2 with
          | set r2 => exact pre_sound l _ _ _ _ _ F1 r2 h1
      · cases c2
  | (r, some j) :: l, st, st', u, R, W, F, hr, h => by
    simp only [preP] at hr
    split at hr
    · obtain ⟨_, st1, R1, W1, R2, W2, r1, r2, -, -⟩ := hr.bind_inv
      obtain ⟨F1, h1⟩ := resSlot_sound r1 h
      exact pre_sound l _ _ _ _ _ F1 r2 h1
    · cases hr with
      | get c1 c2 =>
        dsimp only at c2
        split at c2
        · obtain ⟨v, st1, R1, W1, R2, W2, r1, r2, -, -⟩ := c2.bind_inv
          obtain ⟨g, rfl⟩ := ofO_run r1
          cases r2 with
          | set r2 =>
            obtain ⟨d, st2, R3, W3, R4, W4, r3, r4, -, -⟩ := r2.bind_inv
            obtain ⟨F1, h1⟩ := resCell_sound h c1 g r3
            cases r4 with
            | set r4 => exact pre_sound l _ _ _ _ _ F1 r4 h1
        · cases c2
theorem opL_ok {o : Oper} {nm : Nat} {v : V} {l : List (Nat × Option Nat)} {R W : List Res} (hr : Run (opL P nm o.op l) st v st' R W) : OpOk P o nm st v st' := by
  rintro Γ N a w ⟨Z, B, ρ, F, h⟩ hf K Q hk
  obtain ⟨u, st1, R1, W1, R2, W2, r1, r2, -, -⟩ := hr.bind_inv
  obtain ⟨F1, h1⟩ := pre_sound l _ _ _ _ _ F r1 h
  exact opC_ok r2 Γ N a w ⟨Z, B, ρ, F1, h1⟩ hf K Q hk
end
def putSt (dst : Option Tmp) (v : V) (st : SL) : SL := match dst with
  | some d => (.s d, some (.v v)) :: st
  | none => st
def dstOk (T : Nat) : Option Tmp → Prop
  | some d => d < T
  | none => True
def regW (P : Program) (T : Nat) (ops : Array Oper) : List Oper → SL → Nat → (SL → Nat → Prop) → Prop
  | [], st, n, K => K st n
  | o :: os, st, n, K => dstOk T o.dst ∧ match o.guard with
    | none => ∃ l, (opL P n o.op l).wp st [] [] fun v st' _ _ => regW P T ops os (putSt o.dst v st') (n + 64) K
    | some (j, want) => match (ops[j]?).bind (·.dst) with
      | none => False
      | some d => match lk st (.s d) with
        | some (.v (.d (.p (.bool b)))) => (b = want → ∃ l, (opL P n o.op l).wp ((.s d, some (.v (.d (.p (.bool want))))) :: st) [] [] fun v st' _ _ => regW P T ops os (putSt o.dst v st') (n + 64) K) ∧
            (b = !want → regW P T ops os (putSt o.dst (.tup []) ((.s d, some (.v (.d (.p (.bool (!want)))))) :: st)) n K)
        | some (.v (.tup [])) => regW P T ops os (putSt o.dst (.tup []) st) n K
        | _ => False
section
variable {P : Program} {Γ : Ctx} {Z B : Zone} {ρ : Names} {F : Ix → List Nat} {N : Nat → Prop} {st : St} {ps : List V} {vals : List Value} {X : List Nat} {tm : Array Value} {w : World}
theorem sat_put {a : Act} {dst : Option Tmp} {v : V} {val : Value} {st : SL} (h : SatP Γ N (lk st) [v] [val] a.tmps w) (hd : dstOk a.tmps.size dst) : Sat Γ N (lk (putSt dst v st)) (a.put dst val).tmps w := by
  obtain ⟨Z, B, ρ, F, h⟩ := h
  cases dst with
  | none =>
    obtain ⟨F', h'⟩ := h.drop
    exact ⟨Z, B, ρ, F', h'⟩
  | some d =>
    obtain ⟨F', h'⟩ := h.put hd
    refine ⟨Z, B, ρ, F', ?_⟩
    simp only [putSt, lk_cons, Act.put]
    exact h'
theorem sat_skip {a : Act} {dst : Option Tmp} {st : SL} (h : Sat Γ N (lk st) a.tmps w) (hd : dstOk a.tmps.size dst) : Sat Γ N (lk (putSt dst (.tup []) st)) (a.put dst undef).tmps w := by
  obtain ⟨Z, B, ρ, F, h⟩ := h
  exact sat_put ⟨Z, B, ρ, F, h.push (v := .tup []) (val := undef) (.tup .nil .nil) trivial⟩ hd
theorem put_size (a : Act) (dst : Option Tmp) (v : Value) : (a.put dst v).tmps.size = a.tmps.size := by
  cases dst <;> simp [Act.put]
theorem put_defers' (a : Act) (dst : Option Tmp) (v : Value) : (a.put dst v).defers = a.defers := by
  cases dst <;> rfl
theorem lk_same {st : SL} {x : Res} {c : Option C} (h : lk st x = c) : lk ((x, c) :: st) = lk st := by
  rw [lk_cons]
  funext y
  simp only [upd]
  split
  · rename_i e; rw [e, h]
  · rfl
theorem opW_sound {o : Oper} {T n : Nat} {st : SL} {K : SL → Prop} {l : List (Nat × Option Nat)} (h : (opL P n o.op l).wp st [] [] fun v st' _ _ => K (putSt o.dst v st')) (hd : dstOk T o.dst)
    {a : Act} (hs : a.tmps.size = T) (hsat : Sat Γ (· < n) (lk st) a.tmps w) {K' : Act → World → Prop} {Q : Exit → Act → World → Prop}
    (hk : ∀ a' w' st', a'.tmps.size = T → a'.defers = a.defers → K st' → Sat Γ (· < n + 64) (lk st') a'.tmps w' → K' a' w') : o.wp P a w K' Q := by
  obtain ⟨v, st', R', W', R2, W2, h1, h2, -, -⟩ := Prog.wp_run h
  refine opL_ok h1 Γ (· < n) a w hsat (fun r h1 h2 => by omega) K' Q (fun val w' hh => ?_)
  subst hs
  refine hk _ w' _ (put_size a o.dst val) (put_defers' a o.dst val) h2 ?_
  obtain ⟨Z, B, ρ, F, hh⟩ := sat_put hh hd
  exact ⟨Z, B, ρ, F, hh.weakN (fun r hr => by rcases hr with hr | hr <;> omega)⟩
theorem bool_of_slot {t : Nat} {b : Bool} {st : St} (h : Sat Γ N st tm w) (hs : st (.s t) = some (.v (.d (.p (.bool b))))) : t < tm.size ∧ tm.getD t undef = .bool b := by
  obtain ⟨Z, B, ρ, F, h⟩ := h
  obtain ⟨h1, v, e, h2, _⟩ := h.slot t _ hs
  cases e
  exact ⟨h1, rel_p h2⟩
theorem tup_of_slot {t : Nat} {st : St} (h : Sat Γ N st tm w) (hs : st (.s t) = some (.v (.tup []))) : t < tm.size ∧ tm.getD t undef = undef := by
  obtain ⟨Z, B, ρ, F, h⟩ := h
  obtain ⟨h1, v, e, h2, _⟩ := h.slot t _ hs
  cases e
  refine ⟨h1, ?_⟩
  generalize tm.getD t undef = val at h2 ⊢
  generalize F (some (.s t)) = Fs at h2
  cases h2 with
  | tup t1 t2 => cases t1; rfl
theorem reg_sound {T : Nat} {ops : Array Oper} {Q : Exit → Act → World → Prop} : ∀ (os : List Oper) (i : Nat) (st : SL) (n : Nat) (K : SL → Nat → Prop), ops.toList.drop i = os → regW P T ops os st n K →
    ∀ (a : Act) (w : World), a.tmps.size = T → a.defers = [] → Sat Γ (· < n) (lk st) a.tmps w →
    (∀ st' n' a' w', n ≤ n' → K st' n' → a'.tmps.size = T → a'.defers = [] → Sat Γ (· < n') (lk st') a'.tmps w' → Q .normal a' w') → wpOps P ops Q (List.range' i os.length) a w
  | [], i, st, n, K, hos, h, a, w, hs, hd, hsat, hk => by
    simp only [List.length_nil, List.range'_zero, wpOps]
    exact hk st n a w (Nat.le_refl _) h hs hd hsat
  | o :: os, i, st, n, K, hos, h, a, w, hs, hd, hsat, hk => by
    have hi : ops[i]? = some o := by
      have := congrArg (·[0]?) hos
      simpa using this
    have hos' : ops.toList.drop (i + 1) = os := by
      have := congrArg (List.drop 1) hos
      simpa [List.drop_drop, Nat.add_comm] using this
    rw [List.length_cons, List.range'_succ, wpOps_cons]
    unfold wpOp
    simp only [hi]
    simp only [regW] at h
    obtain ⟨hdst, h⟩ := h
    have hdst' : dstOk a.tmps.size o.dst := by rw [hs]; exact hdst
    have run : ∀ (st : SL), Sat Γ (· < n) (lk st) a.tmps w → (∃ l, (opL P n o.op l).wp st [] [] fun v st' _ _ => regW P T ops os (putSt o.dst v st') (n + 64) K) → o.wp P a w (wpOps P ops Q (List.range' (i + 1) os.length)) Q := by
      intro st hsat ⟨l, h⟩
      refine opW_sound (K := fun st' => regW P T ops os st' (n + 64) K) h hdst hs hsat ?_
      intro a' w' st' h1 h2 h3 h4
      exact reg_sound os (i + 1) st' (n + 64) K hos' h3 a' w' h1 (by rw [h2, hd]) h4 (fun st2 n2 a2 w2 h5 => hk st2 n2 a2 w2 (by omega))
    have skip : ∀ (st : SL), Sat Γ (· < n) (lk st) a.tmps w → regW P T ops os (putSt o.dst (.tup []) st) n K → wpOps P ops Q (List.range' (i + 1) os.length) (a.put o.dst undef) w := by
      intro st hsat h
      exact reg_sound os (i + 1) _ n K hos' h _ w (by rw [put_size, hs]) (by rw [put_defers', hd]) (sat_skip hsat hdst') hk
    split at h
    · rename_i hg
      simp only [Region.wanted, hg, if_true]
      exact .inl (run st hsat h)
    · rename_i j want hg
      split at h
      · exact h.elim
      · rename_i d hj
        split at h
        · rename_i b hslot
          obtain ⟨hlt, hval⟩ := bool_of_slot hsat hslot
          have hy : yielded ops a.tmps j = some b := by
            have : a.tmps[d]? = some (.bool b) := by
              rw [Array.getD_eq_getD_getElem?] at hval
              rw [Array.getElem?_eq_getElem hlt] at hval ⊢
              simpa using hval
            simp [yielded, hj, this]
          simp only [Region.wanted, hg, hy]
          by_cases hb : b = want
          · subst hb
            simp only [beq_self_eq_true, if_true]
            exact .inl (run _ (by rw [lk_same hslot]; exact hsat) (h.1 rfl))
          · have hb' : b = !want := by cases b <;> cases want <;> simp_all
            have : ((some b == some want) : Bool) = false := by simpa using hb
            simp only [this, Bool.false_eq_true, if_false]
            subst hb'
            exact skip _ (by rw [lk_same hslot]; exact hsat) (h.2 rfl)
        · rename_i hslot
          obtain ⟨hlt, hval⟩ := tup_of_slot hsat hslot
          have hy : yielded ops a.tmps j = none := by
            have : a.tmps[d]? = some undef := by
              rw [Array.getD_eq_getD_getElem?] at hval
              rw [Array.getElem?_eq_getElem hlt] at hval ⊢
              simpa using hval
            simp [yielded, hj, this, undef]
          simp only [Region.wanted, hg, hy]
          simp only [show ((none : Option Bool) == some want) = false from rfl, Bool.false_eq_true, if_false]
          exact skip _ hsat h
        · exact h.elim
end
def Gh (st : SL) (n : Nat) (K : SL → Nat → Prop) : Prop :=
  ∀ (Γ : Ctx) (tm : Array Value) (w : World), Sat Γ (· < n) (lk st) tm w → ∃ st' n', n ≤ n' ∧ K st' n' ∧ Sat Γ (· < n') (lk st') tm w
def seqQ (Q : Exit → SL → Nat → Prop) (K : SL → Nat → Prop) : Exit → SL → Nat → Prop
  | .normal, st, n => K st n
  | e, st, n => Q e st n
def blockQ (Q : Exit → SL → Nat → Prop) (id : Nat) : Exit → SL → Nat → Prop
  | .exit id', st, n => if id' = id then Q .normal st n else Q (.exit id') st n
  | e, st, n => Q e st n
def condW (c : Operand) (st : SL) (x y : SL → Prop) : Prop := match c with
  | .tmp t => match lk st (.s t) with
    | some (.v (.d (.p (.bool b)))) => (b = true → x ((.s t, some (.v (.d (.p (.bool true))))) :: st)) ∧ (b = false → y ((.s t, some (.v (.d (.p (.bool false))))) :: st))
    | _ => False
  | .const (.bool b) => if b then x st else y st
  | _ => False
def DrawW (P : Program) (T : Nat) (ops : Array Oper) (st : SL) (n : Nat) (K : SL → Nat → Prop) : Prop :=
  ∀ (Γ : Ctx) (a : Act) (w : World) (Q : Exit → Act → World → Prop), a.tmps.size = T → a.defers = [] → Sat Γ (· < n) (lk st) a.tmps w →
    (∀ st' n' a' w', n ≤ n' → K st' n' → a'.tmps.size = T → a'.defers = [] → Sat Γ (· < n') (lk st') a'.tmps w' → Q .normal a' w') → ∀ t, wpOps P ops Q (Region.schedule (P.follows .mixedOrders) ops t) a w
def slN (b : Nat) (st : SL) : Prop := ∀ r c, lk st r = some c → c.inN (· < b) ∧ ∀ i, r = .r i → i < b
theorem sat_shrink {Γ : Ctx} {n b : Nat} {st : SL} {tm : Array Value} {w : World} (h : Sat Γ (· < n) (lk st) tm w) (hb : Γ.k ≤ b) (hs : slN b st) : Sat Γ (· < b) (lk st) tm w := by
  obtain ⟨Z, B, ρ, F, h⟩ := h
  refine ⟨Z, B, ρ, F, ?_, ?_, ⟨h.pend.1, trivial⟩, h.dead, h.nodup, h.disj, h.own, h.zB, h.zone, h.zoneOld, h.zOld, h.zZ, h.zBB, h.frame, h.grow, h.rho, fun i hi => Nat.lt_of_lt_of_le hi hb⟩
  · intro s c hc
    obtain ⟨h1, v, rfl, h2, _⟩ := h.slot s c hc
    exact ⟨h1, v, rfl, h2, (hs _ _ hc).1⟩
  · intro r c hc
    obtain ⟨h1, h2, _⟩ := h.obj r c hc
    exact ⟨(hs _ _ hc).2 r rfl, h2, (hs _ _ hc).1⟩
def Hd (n : Nat) (J : SL → Nat → Prop) (st : SL) (_ : Nat) : Prop := ∃ nI, n ≤ nI ∧ slN nI st ∧ J st nI
def aw (P : Program) (T : Nat) : Code → SL → Nat → (Exit → SL → Nat → Prop) → Prop
  | .skip, st, n, Q => Q .normal st n
  | .region _ ops false, st, n, Q => regW P T ops ops.toList st n (Q .normal)
  | .region _ ops true, st, n, Q => DrawW P T ops st n (Q .normal)
  | .seq a b, st, n, Q => aw P T a st n (seqQ Q fun st n => aw P T b st n Q)
  | .cond c a b, st, n, Q => condW c st (fun st => aw P T a st n Q) (fun st => aw P T b st n Q)
  | .block id c, st, n, Q => aw P T c st n (blockQ Q id)
  | .exit id, st, n, Q => Q (.exit id) st n
  | .ret, st, n, Q => Q .ret st n
  | .loop c, st, n, Q => ∃ I : Nat → SL → Nat → Prop, (∃ m, Gh st n (Hd n fun st2 n2 => Gh st2 n2 (I m))) ∧ ∀ m st' n', I m st' n' → aw P T c st' n' (seqQ Q fun st1 n1 => Gh st1 n1 (Hd n fun st2 n2 => Gh st2 n2 fun st3 n3 => ∃ m', m' < m ∧ I m' st3 n3))
  | _, _, _, _ => False
def AWp (P : Program) (T : Nat) (c : Code) (st : SL) (n : Nat) (Q : Exit → SL → Nat → Prop) : Prop :=
  ∀ (Γ : Ctx) (a : Act) (w : World), a.tmps.size = T → a.defers = [] → Sat Γ (· < n) (lk st) a.tmps w →
    c.wp P (fun e a' w' => a'.tmps.size = T ∧ a'.defers = [] ∧ ∃ st' n', n ≤ n' ∧ Q e st' n' ∧ Sat Γ (· < n') (lk st') a'.tmps w') a w
theorem Sat.drew {Γ : Ctx} {N : Nat → Prop} {st : St} {tm : Array Value} {w : World} (h : Sat Γ N st tm w) : Sat Γ N st tm { w with drawn := w.drawn + 1 } := by
  obtain ⟨Z, B, ρ, F, h⟩ := h
  have := h.drew
  simp only [World.drew] at this
  exact ⟨Z, B, ρ, F, this⟩
theorem aw_sound {P : Program} {T : Nat} : ∀ (c : Code) (st : SL) (n : Nat) (Q : Exit → SL → Nat → Prop), aw P T c st n Q → AWp P T c st n Q
  | .skip, st, n, Q, h => fun Γ a w hs hd hsat => wp_skip ⟨hs, hd, st, n, Nat.le_refl _, h, hsat⟩
  | .region id ops false, st, n, Q, h => fun Γ a w hs hd hsat => by
    simp only [aw] at h
    refine wp_region ?_
    have := reg_sound (Γ := Γ) (Q := fun e a' w' => a'.tmps.size = T ∧ a'.defers = [] ∧ ∃ st' n', n ≤ n' ∧ Q e st' n' ∧ Sat Γ (· < n') (lk st') a'.tmps w') ops.toList 0 st n (Q .normal) (by simp) h a w hs hd hsat
      (fun st' n' a' w' h1 h2 h3 h4 h5 => ⟨h3, h4, st', n', h1, h2, h5⟩)
    rw [List.range_eq_range']
    simpa using this
  | .region id ops true, st, n, Q, h => fun Γ a w hs hd hsat => by
    simp only [aw] at h
    refine wp_region_draw fun t => ?_
    exact h Γ a _ _ hs hd hsat.drew (fun st' n' a' w' h1 h2 h3 h4 h5 => ⟨h3, h4, st', n', h1, h2, h5⟩) t
  | .seq x y, st, n, Q, h => fun Γ a w hs hd hsat => by
    simp only [aw] at h
    refine wp_seq (wp_mono (aw_sound x st n _ h Γ a w hs hd hsat) ?_)
    rintro e a' w' ⟨h1, h2, st', n', h3, h4, h5⟩
    cases e with
    | normal =>
      refine wp_mono (aw_sound y st' n' Q h4 Γ a' w' h1 h2 h5) ?_
      rintro e a2 w2 ⟨k1, k2, st2, n2, k3, k4, k5⟩
      exact ⟨k1, k2, st2, n2, by omega, k4, k5⟩
    | exit id => exact ⟨h1, h2, st', n', h3, h4, h5⟩
    | goto l => exact ⟨h1, h2, st', n', h3, h4, h5⟩
    | ret => exact ⟨h1, h2, st', n', h3, h4, h5⟩
    | panic ch => exact ⟨h1, h2, st', n', h3, h4, h5⟩
    | outgrown => exact ⟨h1, h2, st', n', h3, h4, h5⟩
  | .cond c x y, st, n, Q, h => fun Γ a w hs hd hsat => by
    simp only [aw, condW] at h
    split at h
    · split at h
      · rename_i t b hslot
        obtain ⟨hlt, hval⟩ := bool_of_slot hsat hslot
        refine wp_cond (t := b) (by simpa [Act.eval] using hval) ?_
        cases b with
        | true => exact aw_sound x _ n Q (h.1 rfl) Γ a w hs hd (by rw [lk_same hslot]; exact hsat)
        | false => exact aw_sound y _ n Q (h.2 rfl) Γ a w hs hd (by rw [lk_same hslot]; exact hsat)
      · exact h.elim
    · rename_i b
      refine wp_cond (t := b) rfl ?_
      cases b with
      | true => exact aw_sound x _ n Q (by simpa using h) Γ a w hs hd hsat
      | false => exact aw_sound y _ n Q (by simpa using h) Γ a w hs hd hsat
    · exact h.elim
  | .block id c, st, n, Q, h => fun Γ a w hs hd hsat => by
    simp only [aw] at h
    refine wp_block (wp_mono (aw_sound c st n _ h Γ a w hs hd hsat) ?_)
    rintro e a' w' ⟨h1, h2, st', n', h3, h4, h5⟩
    cases e with
    | exit id' =>
      simp only [Exit.inBlock]
      simp only [blockQ] at h4
      split
      · rename_i e
        rw [if_pos e] at h4
        exact ⟨h1, h2, st', n', h3, h4, h5⟩
      · rename_i e
        rw [if_neg e] at h4
        exact ⟨h1, h2, st', n', h3, h4, h5⟩
    | normal => exact ⟨h1, h2, st', n', h3, h4, h5⟩
    | goto l => exact ⟨h1, h2, st', n', h3, h4, h5⟩
    | ret => exact ⟨h1, h2, st', n', h3, h4, h5⟩
    | panic ch => exact ⟨h1, h2, st', n', h3, h4, h5⟩
    | outgrown => exact ⟨h1, h2, st', n', h3, h4, h5⟩
  | .exit id, st, n, Q, h => fun Γ a w hs hd hsat => wp_exit ⟨hs, hd, st, n, Nat.le_refl _, h, hsat⟩
  | .ret, st, n, Q, h => fun Γ a w hs hd hsat => wp_ret ⟨hs, hd, st, n, Nat.le_refl _, h, hsat⟩
  | .loop c, st, n, Q, h => fun Γ a w hs hd hsat => by
    simp only [aw] at h
    obtain ⟨I, ⟨m0, h0⟩, round⟩ := h
    have hk : Γ.k ≤ n := by
      obtain ⟨Z, B, ρ, F, hh⟩ := hsat
      rcases Nat.lt_or_ge n Γ.k with hlt | hge
      · exact absurd (hh.kN n hlt) (Nat.lt_irrefl n)
      · exact hge
    obtain ⟨st00, n0', l0', ⟨n00, l00, sl0, i00⟩, s0'⟩ := h0 Γ a.tmps w hsat
    obtain ⟨st0, n0, l01, i0, s0⟩ := i00 Γ a.tmps w (sat_shrink s0' (Nat.le_trans hk l00) sl0)
    have l0 : n ≤ n0 := Nat.le_trans l00 l01
    have key : ∀ m st1 n1 a w, n ≤ n1 → I m st1 n1 → a.tmps.size = T → a.defers = [] → Sat Γ (· < n1) (lk st1) a.tmps w →
        ∀ (b : Frame) (k : List Item) (cs : List Frame), ∃ e a' w', (a'.tmps.size = T ∧ a'.defers = [] ∧ ∃ st' n', n ≤ n' ∧ Q e st' n' ∧ Sat Γ (· < n') (lk st') a'.tmps w') ∧ Arrives P (lone (b.at a (.code c :: .inLoop c :: k)) cs w) b k cs e a' w' := by
      intro m
      induction m using Nat.strongRecOn with
      | _ m ih =>
        intro st1 n1 a w hn hI hs hd hsat b k cs
        obtain ⟨e, a₁, w₁, ⟨k1, k2, st', n', k3, k4, k5⟩, harr⟩ := aw_sound c st1 n1 _ (round m st1 n1 hI) Γ a w hs hd hsat b (.inLoop c :: k) cs
        cases e with
        | normal =>
          obtain ⟨st22, n2', l2', ⟨n22, l22, sl2, i22⟩, s2'⟩ := k4 Γ a₁.tmps w₁ k5
          obtain ⟨st2, n2, l23, ⟨m', hm, i2⟩, s2⟩ := i22 Γ a₁.tmps w₁ (sat_shrink s2' (Nat.le_trans hk l22) sl2)
          have l2 : n ≤ n2 := Nat.le_trans l22 l23
          obtain ⟨e₂, a₂, w₂, hq₂, harr₂⟩ := ih m' hm st2 n2 a₁ w₁ l2 i2 k1 k2 s2 b k cs
          exact ⟨e₂, a₂, w₂, hq₂, .of_steps (Steps.trans harr (.one step_inLoop)) harr₂⟩
        | exit id => exact ⟨_, a₁, w₁, ⟨k1, k2, st', n', by omega, k4, k5⟩, .pass (x := .inLoop c) rfl (fun _ _ => .inl (by simp)) harr⟩
        | goto l => exact ⟨_, a₁, w₁, ⟨k1, k2, st', n', by omega, k4, k5⟩, .pass (x := .inLoop c) rfl (fun _ _ => .inl (by simp)) harr⟩
        | ret => exact ⟨_, a₁, w₁, ⟨k1, k2, st', n', by omega, k4, k5⟩, .pass (x := .inLoop c) rfl (fun _ _ => .inl (by simp)) harr⟩
        | panic ch => exact ⟨_, a₁, w₁, ⟨k1, k2, st', n', by omega, k4, k5⟩, .pass (x := .inLoop c) rfl (fun _ _ => .inl (by simp)) harr⟩
        | outgrown => exact ⟨_, a₁, w₁, ⟨k1, k2, st', n', by omega, k4, k5⟩, .pass (x := .inLoop c) rfl (fun _ _ => .inl (by simp)) harr⟩
    intro b k cs
    obtain ⟨e, a', w', hq, harr⟩ := key m0 st0 n0 a w l0 i0 hs hd s0 b k cs
    exact ⟨e, a', w', hq, .of_steps (.one step_loop) harr⟩
  | .rangeFunc .., st, n, Q, h => by simp only [aw] at h
  | .scope .., st, n, Q, h => by simp only [aw] at h
  | .label .., st, n, Q, h => by simp only [aw] at h
  | .goto .., st, n, Q, h => by simp only [aw] at h
  | .refuse .., st, n, Q, h => by simp only [aw] at h
theorem gh_refl {st : SL} {n : Nat} {K : SL → Nat → Prop} (h : K st n) : Gh st n K := fun Γ tm w hs => ⟨st, n, Nat.le_refl _, h, hs⟩
theorem sat_sub {Γ : Ctx} {N : Nat → Prop} {st st' : St} {ps : List V} {vals : List Value} {tm : Array Value} {w : World} (h : SatP Γ N st ps vals tm w) (hs : ∀ r c, st' r = some c → st r = some c) : SatP Γ N st' ps vals tm w := by
  classical
  obtain ⟨Z, B, ρ, F, h⟩ := h
  refine ⟨Z, B, ρ, fun x => match x with | none => F none | some r => if st' r = none then [] else F (some r), ?_⟩
  have hF : ∀ r c, st' r = some c → (if st' r = none then [] else F (some r)) = F (some r) := fun r c hc => by simp [hc]
  have hsub : ∀ (x : Ix) (b : Nat), b ∈ (match x with | none => F none | some r => if st' r = none then [] else F (some r)) → b ∈ F x := by
    intro x b hb
    cases x with
    | none => exact hb
    | some r =>
      simp only at hb
      split at hb
      · cases hb
      · exact hb
  refine ⟨?_, ?_, h.pend, ?_, ?_, ?_, ?_, h.zB, h.zone, h.zoneOld, h.zOld, h.zZ, h.zBB, h.frame, h.grow, h.rho, h.kN⟩
  · intro s c hc
    obtain ⟨h1, v, h2, h3, h4⟩ := h.slot s c (hs _ _ hc)
    exact ⟨h1, v, h2, by simp only [hF _ _ hc]; exact h3, h4⟩
  · intro r c hc
    obtain ⟨h1, h2, h3⟩ := h.obj r c (hs _ _ hc)
    exact ⟨h1, by simp only [hF _ _ hc]; exact h2, h3⟩
  · intro x hx
    simp [hx]
  · intro x
    cases x with
    | none => exact h.nodup none
    | some r =>
      simp only
      split
      · exact List.nodup_nil
      · exact h.nodup _
  · intro x y hne b hb hby
    exact h.disj x y hne b (hsub x b hb) (hsub y b hby)
  · intro x b hb
    exact h.own x b (hsub x b hb)
theorem gh_sub {st st' : SL} {n : Nat} {K : SL → Nat → Prop} (hs : ∀ r c, lk st' r = some c → lk st r = some c) (h : K st' n) : Gh st n K :=
  fun Γ tm w hsat => ⟨st', n, Nat.le_refl _, h, sat_sub hsat hs⟩
theorem gh_trans {st : SL} {n : Nat} {K : SL → Nat → Prop} (h : Gh st n fun st n => Gh st n K) : Gh st n K := by
  intro Γ tm w hs
  obtain ⟨st1, n1, h1, h2, h3⟩ := h Γ tm w hs
  obtain ⟨st2, n2, k1, k2, k3⟩ := h2 Γ tm w h3
  exact ⟨st2, n2, by omega, k2, k3⟩
def nameSlotP (nm t : Nat) : Prog Unit := .get (.s t) fun c => match c with
  | .v x => .set (.s t) none ((nameAll nm x).bind fun v => .set (.s t) (some (.v v)) (.ret ()))
  | _ => .fail
theorem gh_resSlot (t : Nat) {st : SL} {n : Nat} {K : SL → Nat → Prop} (h : (resSlotP t).wp st [] [] fun _ st' _ _ => Gh st' n K) : Gh st n K := by
  obtain ⟨u, st', R', W', R2, W2, h1, h2, -, -⟩ := Prog.wp_run h
  refine gh_trans fun Γ tm w hsat => ⟨st', n, Nat.le_refl _, h2, ?_⟩
  obtain ⟨Z, B, ρ, F, hs⟩ := hsat
  unfold resSlotP at h1
  cases h1 with
  | @get _ _ _ _ c _ _ _ c1 c2 =>
    dsimp only at c2
    split at c2
    · cases c2 with
      | set c2 =>
        obtain ⟨v, st1, R1, W1, R2, W2, r1, r2, -, -⟩ := c2.bind_inv
        obtain ⟨hlt, F1, h1⟩ := hs.take c1
        obtain ⟨F2, h2⟩ := resAny_sound r1 h1
        generalize hfin : lk st' = fin at r2
        cases r2 with
        | set r2 =>
          cases r2
          obtain ⟨F3, h3⟩ := h2.put hlt
          rw [setget] at h3
          exact ⟨Z, B, ρ, F3, h3⟩
    · cases c2
theorem gh_nameSlot (t : Nat) {st : SL} {n : Nat} {K : SL → Nat → Prop} (h : (nameSlotP n t).wp st [] [] fun _ st' _ _ => Gh st' (n + 64) K) : Gh st n K := by
  obtain ⟨u, st', R', W', R2, W2, h1, h2, -, -⟩ := Prog.wp_run h
  refine gh_trans fun Γ tm w hsat => ⟨st', n + 64, by omega, h2, ?_⟩
  obtain ⟨Z, B, ρ, F, hs⟩ := hsat
  unfold nameSlotP at h1
  cases h1 with
  | @get _ _ _ _ c _ _ _ c1 c2 =>
    dsimp only at c2
    split at c2
    · cases c2 with
      | set c2 =>
        obtain ⟨v, st1, R1, W1, R2, W2, r1, r2, -, -⟩ := c2.bind_inv
        obtain ⟨hlt, F1, h1⟩ := hs.take c1
        obtain ⟨ρ', F2, h2⟩ := nameAll_sound r1 (fun r h1 h2 => by omega) h1
        generalize hfin : lk st' = fin at r2
        cases r2 with
        | set r2 =>
          cases r2
          obtain ⟨F3, h3⟩ := h2.put hlt
          rw [setget] at h3
          exact ⟨Z, B, ρ', F3, h3.weakN (fun r hr => by rcases hr with hr | hr <;> omega)⟩
    · cases c2
theorem gh_resObj (r : Nat) {st : SL} {n s : Nat} {xs : List (List V)} {K : SL → Nat → Prop} (hst : lk st (.r r) = some (.o s xs))
    (h : (resRows xs).wp ((.r r, none) :: st) [] [] fun ds st' _ W => .r r ∉ W ∧ Gh ((.r r, some (.o s (dd ds))) :: st') n K) : Gh st n K := by
  obtain ⟨ds, st', R', W', R2, W2, r1, ⟨h2, h3⟩, -, hW⟩ := Prog.wp_run h
  refine gh_trans fun Γ tm w hsat => ⟨_, n, Nat.le_refl _, h3, ?_⟩
  obtain ⟨Z, B, ρ, F, hs⟩ := hsat
  have hnW : Res.r r ∉ W' := fun hh => h2 (hW _ (.inl hh))
  rw [lk_cons] at r1
  obtain ⟨hN, hO, hin⟩ := hs.obj r _ hst
  have hst1 : lk st' (.r r) = none := by
    rw [r1.frame _ hnW]; simp [upd]
  rw [lk_cons]
  generalize hG : F (some (.r r)) = G at hO
  cases hO with
  | none t1 =>
    unfold resRows at r1
    simp only [resV.go] at r1
    generalize hfin : lk st' = fin at r1
    cases r1
    refine ⟨Z, B, ρ, F, ?_⟩
    have e : upd (upd (lk st) (.r r) none) (.r r) (some (.o s (dd []))) = lk st := by
      funext x
      simp only [upd]
      split
      · rename_i e; rw [e, hst]; rfl
      · rfl
    rw [e]
    exact hs
  | @some _ b o _ us FG hρ hrel hone hrange hblk huni =>
    obtain ⟨F1, f1, h1⟩ := hs.regroup (r := r) (ps' := xs.flatten ++ []) (vals' := us ++ []) (X' := [b]) (Fp' := FG ++ []) hG (RelVs.append hrel .nil)
      (by rw [inNs_append]; exact ⟨inNss_flatten hin, trivial⟩)
      (by intro hh; rw [List.nodup_iff_count] at hh ⊢; intro t; have hh := hh t; simp only [List.count_append, List.count_cons, List.count_nil] at hh ⊢; omega)
      (by intro x hx; simp only [List.mem_append, List.mem_cons] at hx ⊢; grind)
    obtain ⟨hmap, F2, h2⟩ := (res_sound 6).2.2 xs ds _ _ _ _ [] [] _ _ F1 r1 (by simpa using h1)
    have hfl : (dd ds).flatten = ds.flatten.map V.d := dd_flatten ds
    have hlen : ds.length = xs.length := by
      have := congrArg List.length hmap
      simpa using this
    have hul : us.length = ((dd ds).flatten).length := by
      rw [hfl]
      have := h2.lenPend
      simp only [List.length_append, List.length_map, List.length_nil, List.nil_append] at this ⊢
      omega
    obtain ⟨F3, h3⟩ := SatF.close (r := r) (s := s) (o := o) (xs := dd ds) (us := us) (vc := []) (ps := []) (X := []) (by rw [hfl]; simpa using h2)
      hul hN hst1 hρ hone hrange (by rw [dd_length, hlen]; exact hblk)
      (by
        intro x hx
        obtain ⟨y, hy, rfl⟩ := List.mem_map.1 hx
        rw [List.length_map]
        have : y.length ∈ ds.map List.length := List.mem_map_of_mem hy
        rw [hmap] at this
        obtain ⟨z, hz, e⟩ := List.mem_map.1 this
        rw [← e]; exact huni z hz)
      (inNss_iff.2 fun x hx => by
        obtain ⟨y, hy, rfl⟩ := List.mem_map.1 hx
        exact inNs_map_d _)
    exact ⟨Z, B, ρ, F3, h3⟩
def entryS : List V → Nat → SL → SL
  | [], _, st => st
  | v :: vs, i, st => entryS vs (i + 1) ((.s i, some (.v v)) :: st)
def entryO : List C → Nat → SL
  | [], _ => []
  | o :: os, i => (.r i, some o) :: entryO os (i + 1)
def resTo : V → V → Prog Unit
  | .d d, x => (resV 7 x).bind fun d' => .req (d' = d) (.ret ())
  | .agg ts, x => match x with
    | .agg xs => (resRow xs).bind fun ds => .req (ds.map V.d = ts) (.ret ())
    | _ => .fail
  | t, x => .req (x = t) (.ret ())
def retOne (P : Program) (nm : Nat) : ResultVar → V → Prog Unit
  | .tmp t, v => (fetchP (.tmp t)).bind (resTo v)
  | .cell a t, v => (fetchP (.tmp a)).bind fun p => (loadP P t nm p).bind (resTo v)
def retAll (P : Program) (nm : Nat) : List ResultVar → List V → Prog Unit
  | [], [] => .ret ()
  | r :: rs, v :: vs => (retOne P nm r v).bind fun _ => retAll P (nm + 64) rs vs
  | _, _ => .fail
def retP (P : Program) (nm : Nat) : List ResultVar → V → Prog Unit
  | [r], v => retOne P nm r v
  | rs, .tup vs => retAll P nm rs vs
  | _, _ => .fail
def objsAre (st : SL) : Nat → List C → Prop
  | _, [] => True
  | i, o :: os => lk st (.r i) = some o ∧ objsAre st (i + 1) os
def RetW (P : Program) (rs : List ResultVar) (v : V) (objs' : List C) (st : SL) (n : Nat) : Prop := (retP P n rs v).wp st [] [] fun _ st' _ _ => objsAre st' 0 objs'
def retQ (P : Program) (rs : List ResultVar) (v : V) (objs' : List C) : Exit → SL → Nat → Prop
  | .ret, st, n => Gh st n (RetW P rs v objs')
  | .normal, st, n => Gh st n (RetW P rs v objs')
  | _, _, _ => False
section
variable {P : Program} {Γ : Ctx} {Z B : Zone} {ρ : Names} {F : Ix → List Nat} {N : Nat → Prop} {st st' : St} {ps : List V} {vals : List Value} {X : List Nat} {tm : Array Value} {w : World}
theorem lk_entryO : ∀ (objs : List C) (i : Nat) (x : Res), lk (entryO objs i) x = match x with | .s _ => none | .r j => if i ≤ j then objs[j - i]? else none
  | [], i, x => by cases x <;> simp [entryO, lk]
  | o :: os, i, x => by
    simp only [entryO, lk]
    rw [lk_entryO os (i + 1) x]
    cases x with
    | s n => simp
    | r j =>
      simp only [Res.r.injEq]
      split
      · rename_i e; subst e; simp
      · rename_i e
        by_cases h : i ≤ j
        · have : i + 1 ≤ j := by omega
          have e2 : j - i = (j - (i + 1)) + 1 := by omega
          simp only [h, this, if_true]
          rw [e2, List.getElem?_cons_succ]
        · have : ¬ i + 1 ≤ j := by omega
          simp [h, this]
theorem lk_entryO' (objs : List C) : lk (entryO objs 0) = stO objs := by
  funext x
  rw [lk_entryO]
  cases x <;> simp [stO]
theorem SatF.tms {tm' : Array Value} (h : SatF Γ Z B ρ F N st ps vals X tm w) (hs : ∀ s, st (.s s) = none) : SatF Γ Z B ρ F N st ps vals X tm' w :=
  ⟨fun s c hc => absurd ((hs s).symm.trans hc) (by simp), h.obj, h.pend, h.dead, h.nodup, h.disj, h.own, h.zB, h.zone, h.zoneOld, h.zOld, h.zZ, h.zBB, h.frame, h.grow, h.rho, h.kN⟩
theorem entry_sound : ∀ (args : List V) (vals : List Value) (i : Nat) (st : SL) (F : Ix → List Nat), SatF Γ Z B ρ F N (lk st) args vals X tm w → (∀ j v, vals[j]? = some v → tm[i + j]? = some v) →
    ∃ F', SatF Γ Z B ρ F' N (lk (entryS args i st)) [] [] X tm w
  | [], vals, i, st, F, h, hv => by
    have := h.lenPend
    have e : vals = [] := List.length_eq_zero_iff.1 (by simpa using this.symm)
    subst e
    exact ⟨F, h⟩
  | v :: vs, vals, i, st, F, h, hv => by
    cases vals with
    | nil => have := h.lenPend; simp at this
    | cons val vals =>
      have h0 := hv 0 val rfl
      have hlt : i < tm.size := by
        have := (Array.getElem?_eq_some_iff.1 h0).1
        simpa using this
      obtain ⟨F1, h1⟩ := h.put hlt
      have e : tm.setIfInBounds i val = tm := by
        have : tm.getD i undef = val := by
          rw [Array.getD_eq_getD_getElem?]
          simp only [Nat.add_zero] at h0
          rw [h0]; rfl
        rw [← this, setget]
      rw [e, ← lk_cons] at h1
      exact entry_sound vs vals (i + 1) _ F1 h1 (fun j u hj => by
        have := hv (j + 1) u (by simpa using hj)
        rwa [show i + 1 + j = i + (j + 1) by omega])
def resF (tm : Array Value) : ResultVar → Sem Value
  | .tmp t => pure (tm.getD t undef)
  | .cell a t => do loadVar t (← asAddr (tm.getD a undef))
theorem resTo_sound {x v : V} {u : Unit} {val : Value} {R W : List Res} (r2 : Run (resTo v x) st u st' R W) (h1 : SatF Γ Z B ρ F N st (x :: ps) (val :: vals) X tm w) :
    ∃ F', SatF Γ Z B ρ F' N st' (v :: ps) (val :: vals) X tm w := by
  unfold resTo at r2
  split at r2
  · rename_i d
    obtain ⟨d', st2, R3, W3, R4, W4, r3, r4, -, -⟩ := r2.bind_inv
    cases r4 with
    | req g r4 =>
      cases r4
      subst g
      exact (res_sound 7).1 _ _ _ _ _ _ [] ps _ X F r3 h1
  · rename_i ts
    split at r2
    · rename_i xs
      obtain ⟨ds, st2, R3, W3, R4, W4, r3, r4, -, -⟩ := r2.bind_inv
      cases r4 with
      | req g r4 =>
        cases r4
        subst g
        exact resAny_sound (x := .agg xs) (v := .agg (ds.map V.d)) (Run.bind r3 .ret) h1
    · cases r2
  · cases r2 with
    | req g r2 =>
      cases r2
      subst g
      exact ⟨F, h1⟩
theorem retOne_sound {r : ResultVar} {v : V} {u : Unit} {n : Nat} {R W : List Res} (hr : Run (retOne P n r v) st u st' R W) (h : SatF Γ Z B ρ F (· < n) st ps vals X tm w) :
    ∃ val ρ' F', (resF tm r).run P w = .ok val w ∧ SatF Γ Z B ρ' F' (· < n + 64) st' (v :: ps) (val :: vals) X tm w := by
  unfold retOne at hr
  split at hr
  · rename_i t
    obtain ⟨x, st1, R1, W1, R2, W2, r1, r2, -, -⟩ := hr.bind_inv
    obtain ⟨F1, h1⟩ := fetch_sound (a := { tmps := tm, defers := [] }) r1 rfl h
    have e : ({ tmps := tm, defers := [] } : Act).eval (.tmp t) = tm.getD t undef := rfl
    rw [e] at h1
    obtain ⟨F2, h2⟩ := resTo_sound r2 h1
    exact ⟨tm.getD t undef, ρ, F2, rfl, h2.weakN (fun r hr => by omega)⟩
  · rename_i a t
    obtain ⟨x, st1, R1, W1, R2, W2, r1, r2, -, -⟩ := hr.bind_inv
    obtain ⟨y, st2, R3, W3, R4, W4, r3, r4, -, -⟩ := r2.bind_inv
    obtain ⟨F1, h1⟩ := fetch_sound (a := { tmps := tm, defers := [] }) r1 rfl h
    have e : ({ tmps := tm, defers := [] } : Act).eval (.tmp a) = tm.getD a undef := rfl
    rw [e] at h1
    obtain ⟨val', ρ', F', ⟨ad, e2⟩, e1, h2⟩ := load_sound (P := P) r3 (fun r h1 h2 => by omega) h1
    obtain ⟨F2, h3⟩ := resTo_sound r4 h2
    refine ⟨val', ρ', F2, ?_, h3.weakN (fun r hr => by rcases hr with hr | hr <;> omega)⟩
    rw [e2] at e1
    simp only [resF, e2]
    simpa [Instr.loadAt, Instr.sureAddr, asAddr] using e1
theorem retAll_sound : ∀ {rs : List ResultVar} {vs : List V} {u : Unit} {n : Nat} {st st' : St} {R W : List Res} {ps : List V} {vals : List Value} {ρ : Names} {F : Ix → List Nat}, Run (retAll P n rs vs) st u st' R W → SatF Γ Z B ρ F (· < n) st ps vals X tm w →
    ∃ us n' ρ' F', (rs.mapM (resF tm)).run P w = .ok us w ∧ us.length = vs.length ∧ SatF Γ Z B ρ' F' (· < n') st' (vs ++ ps) (us ++ vals) X tm w
  | [], vs, u, n, st, st', R, W, ps, vals, ρ, F, hr, h => by
    cases vs <;> simp only [retAll] at hr <;> cases hr
    exact ⟨[], n, ρ, F, rfl, rfl, h⟩
  | r :: rs, vs, u, n, st, st', R, W, ps, vals, ρ, F, hr, h => by
    cases vs with
    | nil => simp only [retAll] at hr; cases hr
    | cons v vs =>
      simp only [retAll] at hr
      obtain ⟨x, st1, R1, W1, R2, W2, r1, r2, -, -⟩ := hr.bind_inv
      obtain ⟨val, ρ1, F1, h1, h2⟩ := retOne_sound r1 h
      obtain ⟨us, n', ρ2, F2, h3, h4, h5⟩ := retAll_sound r2 h2
      obtain ⟨F3, h6⟩ := SatF.front (pre := vs) (mid := [v]) (va := us) (vm := [val]) (by simpa using h5) h4 rfl
      refine ⟨val :: us, n', ρ2, F3, ?_, by simp [h4], by simpa using h6⟩
      rw [List.mapM_cons]
      simp only [Sem.run_bind, h1, Result.andThen, h3, Sem.run_pure]
theorem objsAre_spec : ∀ {objs : List C} {st : SL} {i : Nat}, objsAre st i objs → ∀ j c, objs[j]? = some c → lk st (.r (i + j)) = some c
  | [], st, i, h, j, c, hj => by simp at hj
  | o :: os, st, i, h, j, c, hj => by
    cases j with
    | zero => simp at hj; subst hj; exact h.1
    | succ j =>
      have := objsAre_spec h.2 j c (by simpa using hj)
      rwa [show i + (j + 1) = i + 1 + j by omega]
theorem results_of {fn : Func} {us : List Value} {w : World} (h : (fn.results.toList.mapM (resF tm)).run P w = .ok us w) :
    (results fn tm).run P w = .ok (if hh : us.length = 1 then us[0] else .tuple us.toArray) w := by
  have e : results fn tm = (do let vs ← fn.results.mapM (resF tm); pure (if h : vs.size = 1 then vs[0] else .tuple vs)) := by
    unfold results
    congr 1
  rw [e, Array.mapM_eq_mapM_toList]
  simp only [Sem.run_bind, map_eq_pure_bind, h, Result.andThen, Sem.run_pure]
  by_cases hh : us.length = 1
  · simp [hh]
  · simp [hh]
theorem retAll_length : ∀ {rs : List ResultVar} {vs : List V} {u : Unit} {n : Nat} {st st' : St} {R W : List Res}, Run (retAll P n rs vs) st u st' R W → rs.length = vs.length
  | [], vs, u, n, st, st', R, W, h => by cases vs <;> simp only [retAll] at h <;> cases h; rfl
  | r :: rs, vs, u, n, st, st', R, W, h => by
    cases vs with
    | nil => simp only [retAll] at h; cases h
    | cons v vs =>
      simp only [retAll] at h
      obtain ⟨x, st1, R1, W1, R2, W2, r1, r2, -, -⟩ := h.bind_inv
      simp [retAll_length r2]
theorem ret_sound {fn : Func} {v : V} {objs' : List C} {st : SL} {n : Nat} (hw : RetW P fn.results.toList v objs' st n) (h : Sat Γ (· < n) (lk st) tm w) :
    ∃ val n', (results fn tm).run P w = .ok val w ∧ SatP Γ (· < n') (stO objs') [v] [val] tm w := by
  obtain ⟨u, st', R', W', R2, W2, h1, h2, -, -⟩ := Prog.wp_run hw
  obtain ⟨Z, B, ρ, F, h⟩ := h
  have fin : ∀ {val : Value} {ρ' : Names} {F' : Ix → List Nat} {n' : Nat}, SatF Γ Z B ρ' F' (· < n') (lk st') [v] [val] [] tm w → SatP Γ (· < n') (stO objs') [v] [val] tm w := by
    intro val ρ' F' n' hh
    refine sat_sub ⟨Z, B, ρ', F', hh⟩ ?_
    intro r c hc
    cases r with
    | s t => cases hc
    | r i =>
      have := objsAre_spec h2 i c hc
      simpa using this
  unfold retP at h1
  split at h1
  · rename_i r e
    obtain ⟨val, ρ', F', k1, k2⟩ := retOne_sound (P := P) h1 h
    have := results_of (P := P) (fn := fn) (tm := tm) (us := [val]) (w := w) (by
      rw [e, List.mapM_cons]
      simp only [Sem.run_bind, k1, Result.andThen, List.mapM_nil, Sem.run_pure])
    exact ⟨val, _, by simpa using this, fin k2⟩
  · rename_i vs hne
    obtain ⟨us, n', ρ', F', k1, k2, k3⟩ := retAll_sound (P := P) h1 h
    have hr := results_of (P := P) (fn := fn) (tm := tm) (us := us) (w := w) k1
    have hl : us.length ≠ 1 := by
      intro hl
      have h5 := retAll_length h1
      rw [k2] at hl
      rw [hl] at h5
      obtain ⟨r, e⟩ := List.length_eq_one_iff.1 h5
      exact hne r e
    rw [dif_neg hl] at hr
    refine ⟨_, n', hr, ?_⟩
    obtain ⟨Fa, Fm, Fc, e0, q1, q2, q3, m1, m2, m3⟩ := SatF.partsAt (pre := []) (mid := vs) (ps := []) (va := []) (vm := us) (vc := []) k3 rfl k2
    cases q1
    obtain ⟨F3, _, h3⟩ := k3.rehand (ps' := [.tup vs]) (vals' := [.tuple us.toArray]) (X' := []) (Fp' := Fm ++ Fc) (RelVs.tup q2 q3) ⟨m2, trivial⟩ (by rw [e0]; simp) (by rw [e0]; simp)
    exact fin h3
  · cases h1
end
section
variable {P : Program} {T : Nat} {st : SL} {n : Nat} {Q : Exit → SL → Nat → Prop} {ops : Array Oper} {os : List Oper} {K : SL → Nat → Prop}
theorem aw_reg {i : Nat} {l : List Oper} (h : regW P T l.toArray l st n (Q .normal)) : aw P T (.region i l.toArray false) st n Q := h
theorem seqQ_normal {K : SL → Nat → Prop} (h : K st n) : seqQ Q K .normal st n := h
theorem seqQ_ret {K : SL → Nat → Prop} (h : Q .ret st n) : seqQ Q K .ret st n := h
theorem seqQ_exit {K : SL → Nat → Prop} {i : Nat} (h : Q (.exit i) st n) : seqQ Q K (.exit i) st n := h
theorem blockQ_normal {i : Nat} (h : Q .normal st n) : blockQ Q i .normal st n := h
theorem blockQ_ret {i : Nat} (h : Q .ret st n) : blockQ Q i .ret st n := h
theorem blockQ_this {i : Nat} (h : Q .normal st n) : blockQ Q i (.exit i) st n := by simpa [blockQ] using h
theorem blockQ_other {i j : Nat} (hne : j ≠ i) (h : Q (.exit j) st n) : blockQ Q i (.exit j) st n := by simpa [blockQ, hne] using h
theorem regW_nil (h : K st n) : regW P T ops [] st n K := h
theorem regW_op {dst : Option Tmp} {op : Op} {ty : TypeId} {pos : String} {af : Array Edge} {n' : Nat} (hd : dstOk T dst) (hn : n + 64 = n')
    (h : ∀ k : V → SL → List Res → List Res → Prop, (∀ v st' R W, regW P T ops os (putSt dst v st') n' K → k v st' R W) → (opC P n op).wp st [] [] k) :
    regW P T ops ({ dst := dst, op := op, type := ty, pos := pos, after := af, guard := none } :: os) st n K := by
  subst hn
  exact ⟨hd, [], h _ fun _ _ _ _ x => x⟩
theorem regW_opL (l : List (Nat × Option Nat)) {dst : Option Tmp} {op : Op} {ty : TypeId} {pos : String} {af : Array Edge} {n' : Nat} (hd : dstOk T dst) (hn : n + 64 = n')
    (h : ∀ k : V → SL → List Res → List Res → Prop, (∀ v st' R W, regW P T ops os (putSt dst v st') n' K → k v st' R W) → (opL P n op l).wp st [] [] k) :
    regW P T ops ({ dst := dst, op := op, type := ty, pos := pos, after := af, guard := none } :: os) st n K := by
  subst hn
  exact ⟨hd, l, h _ fun _ _ _ _ x => x⟩
theorem regW_guard {dst : Option Tmp} {op : Op} {ty : TypeId} {pos : String} {af : Array Edge} {j d n' : Nat} {want b : Bool} (hd : dstOk T dst) (hn : n + 64 = n') (hj : (ops[j]?).bind (·.dst) = some d)
    (hs : lk st (.s d) = some (.v (.d (.p (.bool b)))))
    (h : b = want → ∀ k : V → SL → List Res → List Res → Prop, (∀ v st' R W, regW P T ops os (putSt dst v st') n' K → k v st' R W) → (opC P n op).wp ((.s d, some (.v (.d (.p (.bool want))))) :: st) [] [] k)
    (h2 : b = !want → regW P T ops os (putSt dst (.tup []) ((.s d, some (.v (.d (.p (.bool (!want)))))) :: st)) n K) :
    regW P T ops ({ dst := dst, op := op, type := ty, pos := pos, after := af, guard := some (j, want) } :: os) st n K := by
  subst hn
  simp only [regW, hj, hs]
  exact ⟨hd, fun e => ⟨[], h e _ fun _ _ _ _ x => x⟩, h2⟩
theorem regW_no {dst : Option Tmp} {op : Op} {ty : TypeId} {pos : String} {af : Array Edge} {j d : Nat} {want : Bool} (hd : dstOk T dst) (hj : (ops[j]?).bind (·.dst) = some d)
    (hs : lk st (.s d) = some (.v (.d (.p (.bool (!want)))))) (h : regW P T ops os (putSt dst (.tup []) ((.s d, some (.v (.d (.p (.bool (!want)))))) :: st)) n K) :
    regW P T ops ({ dst := dst, op := op, type := ty, pos := pos, after := af, guard := some (j, want) } :: os) st n K := by
  exact regW_guard hd rfl hj hs (fun e => by cases want <;> cases e) (fun _ => h)
theorem regW_skip {dst : Option Tmp} {op : Op} {ty : TypeId} {pos : String} {af : Array Edge} {j d : Nat} {want : Bool} (hd : dstOk T dst) (hj : (ops[j]?).bind (·.dst) = some d)
    (hs : lk st (.s d) = some (.v (.tup []))) (h2 : regW P T ops os (putSt dst (.tup []) st) n K) :
    regW P T ops ({ dst := dst, op := op, type := ty, pos := pos, after := af, guard := some (j, want) } :: os) st n K := by
  simp only [regW, hj, hs]
  exact ⟨hd, h2⟩
mutual
def V.isData : V → Bool
  | .d _ => true
  | .agg cs => V.isDataL cs
  | _ => false
def V.isDataL : List V → Bool
  | [] => true
  | x :: xs => x.isData && V.isDataL xs
end
mutual
theorem argP_self {π : Nat → Nat} {L : List Nat} {R W : List Res} {k : Unit → SL → List Res → List Res → Prop} : ∀ {x : V}, x.isData = true → k () st R W → (argP π L x x).wp st R W k
  | .d x, _, h => by simp only [argP, Prog.wp, true_or, true_and]; exact h
  | .agg xs, hx, h => by simp only [argP]; exact argsP_self hx h
theorem argsP_self {π : Nat → Nat} {L : List Nat} {R W : List Res} {k : Unit → SL → List Res → List Res → Prop} : ∀ {xs : List V}, V.isDataL xs = true → k () st R W → (argsP π L xs xs).wp st R W k
  | [], _, h => h
  | x :: xs, hx, h => by
    simp only [V.isDataL, Bool.and_eq_true] at hx
    simp only [argsP, Prog.wp_bind]
    exact argP_self hx.1 (argsP_self hx.2 h)
end
theorem call_data {f : FuncId} {xs : List V} {v : V} {nm : Nat} {R W : List Res} {k : V → SL → List Res → List Res → Prop} (hc : Con P f xs [] v []) (hx : V.isDataL xs = true)
    (h : (nameAll nm (v.ren fun i => ([] : List Nat).getD i 0)).wp st R W k) : (callP P nm f xs).wp st R W k := by
  simp only [callP, Prog.wp]
  refine ⟨⟨xs, [], v, [], [], []⟩, ⟨hc, List.nodup_nil, by simp, .inl rfl⟩, ?_⟩
  simp only [Prog.wp_bind]
  refine argsP_self hx ?_
  simp only [objsP, Prog.wp]
  exact h
end
end Go.Proofs.YtdlaplgofgklnaaGreat.L
namespace Go.Proofs.YtdlaplgofgklnaaGreat.L
open Go.ChangeShapes Go.WideShapes Go.RowKit
set_option linter.unusedVariables false
set_option linter.unusedSimpArgs false
theorem row_calls {P : Program} {f : FuncId} {xs : List V} {b : Bool} {args : Array Value} {W : World} (hc : Con P f xs [] (.d (.p (.bool b))) [])
    (hrel : RelVs (fun _ => False) (fun k => k < W.heap.size) W (fun _ => none) xs args.toList []) (hT : TabW W (fun _ => False) (fun k => k < W.heap.size)) :
    Calls P f args W fun e W' => e = .returned (.bool b) ∧ Below W.heap.size W W' := by
  have hs : SatP { w0 := W, M := fun _ => False, Z := fun _ => False, B := fun k => k < W.heap.size, k := 0, ρ := fun _ => none, tab := hT } (· < 0) (stO []) xs args.toList #[] W := by
    refine ⟨fun _ => False, fun k => k < W.heap.size, fun _ => none, fun _ => [], ?_⟩
    refine ⟨?_, ?_, ⟨⟨[], rfl, hrel⟩, hc.inA⟩, fun _ _ => rfl, fun _ => List.nodup_nil, by simp, by simp, fun b hb => hb.elim, fun b hb => hb, fun b hb => .inl hb, fun b hb => hb.elim, fun b hb => hb, fun b hb => hb, fun _ _ _ => rfl, Grow.refl W, fun i hi => absurd hi (by simp), fun i hi => absurd hi (by simp)⟩
    · intro s c hh; cases hh
    · intro r c hh; simp [stO] at hh
  have := hc.call _ args.toList W rfl hs
  simp only [Array.toArray_toList] at this
  refine this.mono ?_
  rintro e W' ⟨val, N, rfl, Z, B, ρ, F, h⟩
  obtain ⟨G, g⟩ := h.head
  have hv := rel_p g
  subst hv
  exact ⟨rfl, h.grow.os, h.grow.tape, h.grow.output, h.grow.size, fun k hk => h.frame k hk (fun x => x)⟩
theorem trodAll_stays {H : Type} {enc : TypeId × Value → H} {P : Program} (hl : laidOutB P = true) {W W' : World} (hb : Below W.heap.size W W') {sp : Nat → Bool} :
    ∀ {ts : List TypeId} {vs : List Value} {ds : List (DataW H)} {ps : List MemPlace}, (∀ t ∈ ts, P.readableRec t = true ∧ t < P.types.size) → DataW.TrodAll enc P W 0 (fun _ => true) true ts vs ds ps →
    (∀ x ∈ ps, x.block < W.heap.size) → (∀ x ∈ ps, sp x.block = true) → DataW.TrodAll enc P W' 0 sp true ts vs ds ps
  | [], vs, ds, ps, _, h, _, _ => by
    obtain ⟨rfl, rfl, rfl⟩ := trodAll_nil h
    exact h
  | t :: ts, vs, ds, ps, hr, h, hlt, hsp => by
    obtain ⟨v, vs1, d, ds1, a, b, rfl, rfl, rfl, h1, h2⟩ := trodAll_cons h
    refine ⟨a, b, ?_, trodAll_stays hl hb (fun t ht => hr t (by simp [ht])) h2 (fun x hx => hlt x (by simp [hx])) (fun x hx => hsp x (by simp [hx])), rfl⟩
    exact WideElems.Trod_stays hl (hr t (by simp)).1 (hr t (by simp)).2 h1 (fun x hx => hb.same (hlt x (by simp [hx]))) (fun x hx => hsp x (by simp [hx]))
theorem post_true {H : Type} {enc : TypeId × Value → H} {P : Program} (hl : laidOutB P = true) {f : Func} {s : ChangeSpec} {tb : TypeId} {apart fresh handsOn again b : Bool} {W W' : World} {args : Array Value} {ds gs : List (DataW H)} {before : List MemPlace}
    (hvars : s.vars = []) (hrt : f.resultTypes = #[tb]) (hub : P.underlying tb = some .bool) (hfn : s.fn H ds = { results := [.lit (.bool b)], args := ds })
    (hr : ∀ t ∈ f.params.toList, P.readableRec t = true ∧ t < P.types.size)
    (hW : DataW.Whole enc P f.params.toList s.vars apart W args.toList ds gs before) (hb : Below W.heap.size W W') : s.post enc P f apart fresh handsOn again W args (.bool b) W' := by
  have hlt := hW.lt
  obtain ⟨p, q, hA, hV, rfl, hz, hn⟩ := id hW
  rw [hvars] at hV
  obtain ⟨rfl, rfl⟩ := trodVars_none hV
  simp only [List.append_nil] at hlt hz hn hW
  have hres : ∀ (bb : Nat) (sp : Nat → Bool) (hd : Bool), DataW.TrodAll enc P W' bb sp hd f.resultTypes.toList ((Value.bool b).resultList f.resultTypes.size) [.lit (.bool b)] [] := by
    intro bb sp hd
    rw [hrt]
    exact trodAll_mk1 ⟨1, by simp [DataW.trod, Value.cells, hub]⟩
  have hargs : ∀ sp : Nat → Bool, (∀ x ∈ p, sp x.block = true) → DataW.TrodAll enc P W' 0 sp true f.params.toList args.toList ds p := fun sp hsp => trodAll_stays hl hb hr hA hlt hsp
  refine ⟨ds, [], p, [], p, [], by simpa using hW, ?_, ?_, ?_, World.keptBut_mono (fun x hx => hx.elim) (hb.frame fun _ => False), fun _ => ?_⟩
  · rw [List.append_nil, hfn]; exact hres _ _ _
  · rw [List.append_nil, hfn]; exact hargs _ (fun x hx => by simpa using hlt x hx)
  · rw [List.append_nil, hfn, hvars]; rfl
  · refine ⟨?_, [.lit (.bool b)] ++ ds, [], ([] ++ p) ++ [], ⟨[] ++ p, [], trodAll_append (hargs _ (fun _ _ => rfl)) (hres _ _ _), by rw [hvars]; rfl, rfl, ?_, ?_⟩, ?_⟩
    · intro j t r h1 h2
      rw [hrt] at h1
      have hj : j = 0 := by
        have := (Array.getElem?_eq_some_iff.1 h1).1
        simp at this
        omega
      subst hj
      simp at h1
      subst h1
      simp [hrt, Value.resultList] at h2
      subst h2
      simp [Value.okWide, hub, Cell.okWide, Cell.ok]
    · intro k off hp
      simp only [List.nil_append, List.append_nil] at hp
      rw [hb.frozen (hlt _ hp)]
      exact hz k off hp
    · intro ha
      simpa using hn ha
    · intro x hx _
      simpa using hx
end Go.Proofs.YtdlaplgofgklnaaGreat.L
namespace Go.Proofs.YtdlaplgofgklnaaGreat.L
set_option linter.unusedVariables false
set_option linter.unusedSimpArgs false
def putP (dst : Option Tmp) (v : V) : Prog Unit := match dst with
  | some d => .set (.s d) (some (.v v)) (.ret ())
  | none => .ret ()
def stepP (P : Program) (nm : Nat) (ops : Array Oper) (o : Oper) : Prog Unit := match o.guard with
  | none => (opC P nm o.op).bind (putP o.dst)
  | some (j, want) => match (ops[j]?).bind (·.dst) with
    | none => .fail
    | some d => .get (.s d) fun c => match c with
      | .v (.d (.p (.bool b))) => if b = want then (opC P nm o.op).bind (putP o.dst) else putP o.dst (.tup [])
      | .v (.tup []) => putP o.dst (.tup [])
      | _ => .fail
def stepL (P : Program) (nm : Nat) (ops : Array Oper) (o : Oper) (l : List (Nat × Option Nat)) : Prog Unit := match o.guard with
  | none => (opL P nm o.op l).bind (putP o.dst)
  | some (j, want) => match (ops[j]?).bind (·.dst) with
    | none => .fail
    | some d => .get (.s d) fun c => match c with
      | .v (.d (.p (.bool b))) => if b = want then (opL P nm o.op l).bind (putP o.dst) else putP o.dst (.tup [])
      | .v (.tup []) => putP o.dst (.tup [])
      | _ => .fail
section
variable {P : Program} {Γ : Ctx} {N : Nat → Prop} {st st' : St} {w : World}
theorem sat_putR {a : Act} {dst : Option Tmp} {v : V} {val : Value} {u : Unit} {R W : List Res} (hr : Run (putP dst v) st u st' R W) (h : SatP Γ N st [v] [val] a.tmps w) (hd : dstOk a.tmps.size dst) :
    Sat Γ N st' (a.put dst val).tmps w := by
  obtain ⟨Z, B, ρ, F, h⟩ := h
  cases dst with
  | none =>
    simp only [putP] at hr
    cases hr
    obtain ⟨F', h'⟩ := h.drop
    exact ⟨Z, B, ρ, F', h'⟩
  | some d =>
    simp only [putP] at hr
    cases hr with
    | set hr =>
      cases hr
      obtain ⟨F', h'⟩ := h.put hd
      exact ⟨Z, B, ρ, F', h'⟩
theorem step_sound {ops : Array Oper} {o : Oper} {i nm : Nat} {u : Unit} {l : List (Nat × Option Nat)} {R W : List Res} (hi : ops[i]? = some o) (hr : Run (stepL P nm ops o l) st u st' R W) {a : Act} (hd : dstOk a.tmps.size o.dst)
    (hsat : Sat Γ N st a.tmps w) (hf : ∀ r, nm ≤ r → r < nm + 64 → ¬ N r) {K : Act → World → Prop} {Q : Exit → Act → World → Prop}
    (hk : ∀ a' w', a'.tmps.size = a.tmps.size → a'.defers = a.defers → Sat Γ (Nx nm N) st' a'.tmps w' → K a' w') : wpOp P ops Q i K a w := by
  have run : ∀ {st : St} {R W : List Res}, Sat Γ N st a.tmps w → Run ((opL P nm o.op l).bind (putP o.dst)) st u st' R W → o.wp P a w K Q := by
    intro st R W hsat h
    obtain ⟨v, st1, R1, W1, R2, W2, r1, r2, -, -⟩ := h.bind_inv
    exact opL_ok r1 Γ N a w hsat hf K Q (fun val w' hh => hk _ w' (put_size a o.dst val) (put_defers' a o.dst val) (sat_putR r2 hh hd))
  have skip : ∀ {st : St} {R W : List Res}, Sat Γ N st a.tmps w → Run (putP o.dst (.tup [])) st u st' R W → K (a.put o.dst undef) w := by
    intro st R W hsat h
    obtain ⟨Z, B, ρ, F, hs⟩ := hsat
    have h2 := sat_putR (val := undef) h ⟨Z, B, ρ, F, hs.push (v := .tup []) (val := undef) (.tup .nil .nil) trivial⟩ hd
    obtain ⟨Z, B, ρ, F, h2⟩ := h2
    exact hk _ w (put_size a o.dst undef) (put_defers' a o.dst undef) ⟨Z, B, ρ, F, h2.toNx⟩
  unfold wpOp
  simp only [hi]
  unfold stepL at hr
  split at hr
  · rename_i hg
    simp only [Region.wanted, hg, if_true]
    exact .inl (run hsat hr)
  · rename_i j want hg
    split at hr
    · cases hr
    · rename_i d hj
      cases hr with
      | @get _ _ _ _ c _ _ _ c1 c2 =>
        dsimp only at c2
        split at c2
        · rename_i b
          obtain ⟨hlt, hval⟩ := bool_of_slot hsat c1
          have hy : yielded ops a.tmps j = some b := by
            have : a.tmps[d]? = some (.bool b) := by
              rw [Array.getD_eq_getD_getElem?] at hval
              rw [Array.getElem?_eq_getElem hlt] at hval ⊢
              simpa using hval
            simp [yielded, hj, this]
          simp only [Region.wanted, hg, hy]
          split at c2
          · rename_i e
            subst e
            simp only [beq_self_eq_true, if_true]
            exact .inl (run hsat c2)
          · rename_i e
            have : ((some b == some want) : Bool) = false := by simpa using e
            simp only [this, Bool.false_eq_true, if_false]
            exact skip hsat c2
        · obtain ⟨hlt, hval⟩ := tup_of_slot hsat c1
          have hy : yielded ops a.tmps j = none := by
            have : a.tmps[d]? = some undef := by
              rw [Array.getD_eq_getD_getElem?] at hval
              rw [Array.getElem?_eq_getElem hlt] at hval ⊢
              simpa using hval
            simp [yielded, hj, this, undef]
          simp only [Region.wanted, hg, hy]
          simp only [show ((none : Option Bool) == some want) = false from rfl, Bool.false_eq_true, if_false]
          exact skip hsat c2
        · cases c2
end
abbrev RW := List Res × List Res
def rwAt (acc : List RW) (i : Nat) : RW := acc.getD i ([], [])
def clash (a b : RW) : Bool := a.2.any (fun x => b.1.contains x || b.2.contains x) || a.1.any (fun x => b.2.contains x)
def predIn (ops : Array Oper) : Nat → Nat → Nat → Bool
  | 0, _, _ => false
  | fuel + 1, j, i => match ops[j]? with
    | some o => o.after.toList.any fun e => Region.binds .any e && (e.on == i || predIn ops fuel e.on i)
    | none => false
def okDraw (ops : Array Oper) (acc : List RW) : Bool :=
  (List.range ops.size).all fun j => (match ops[j]? with
    | some o => o.after.toList.all fun e => !Region.binds .any e || decide (e.on < j)
    | none => true) && (List.range j).all fun i => !clash (rwAt acc i) (rwAt acc j) || predIn ops ops.size j i
def regD (P : Program) (T : Nat) (ops : Array Oper) : List Oper → SL → Nat → List RW → (SL → Nat → List RW → Prop) → Prop
  | [], st, n, acc, K => K st n acc
  | o :: os, st, n, acc, K => dstOk T o.dst ∧ ∃ l, (stepL P n ops o l).wp st [] [] fun _ st' R W => regD P T ops os st' (n + 64) (acc ++ [(R, W)]) K
abbrev Cel := Nat × Nat × Nat × V
def Stay (st : St) (l : List Cel) : Prop := ∀ x ∈ l, ∃ row, st (.r x.1) = some (.o x.2.1 [row]) ∧ row[x.2.2.1]? = some x.2.2.2
structure StepAt (P : Program) (T n : Nat) (ops : Array Oper) (obl : List Cel) (f : Nat → St) (acc : List RW) (j : Nat) : Prop where
  ex : ∃ o, ops[j]? = some o ∧ dstOk T o.dst ∧ ∀ st2 : St, (∀ x, x ∈ (rwAt acc j).1 ∨ x ∈ (rwAt acc j).2 → st2 x = f j x) → Stay st2 obl →
    ∃ l R W st3, Run (stepL P (n + 64 * j) ops o l) st2 () st3 R W ∧ (∀ x, x ∈ (rwAt acc j).2 → st3 x = f (j + 1) x) ∧ (∀ x, x ∉ (rwAt acc j).2 → st3 x = st2 x)
  frame : ∀ x, x ∉ (rwAt acc j).2 → f (j + 1) x = f j x
  stay : Stay (f j) obl
  stay' : Stay (f (j + 1)) obl
theorem StepAt.of {P : Program} {T n : Nat} {ops : Array Oper} {obl : List Cel} {f : Nat → St} {acc : List RW} {j : Nat} {o : Oper} {l : List (Nat × Option Nat)} {R W : List Res} (hi : ops[j]? = some o) (hd : dstOk T o.dst)
    (h : Run (stepL P (n + 64 * j) ops o l) (f j) () (f (j + 1)) R W) (hR : ∀ x ∈ R, x ∈ (rwAt acc j).1) (hW : ∀ x ∈ W, x ∈ (rwAt acc j).2) (s1 : Stay (f j) obl) (s2 : Stay (f (j + 1)) obl) : StepAt P T n ops obl f acc j := by
  refine ⟨⟨o, hi, hd, fun st2 h2 _ => ?_⟩, fun x hx => h.frame x (fun hh => hx (hW x hh)), s1, s2⟩
  obtain ⟨st3, r2, e2⟩ := h.local st2 (fun x hx => h2 x (hx.imp (hR x) (hW x)))
  refine ⟨l, R, W, st3, r2, fun x hx => ?_, fun x hx => r2.frame x (fun hh => hx (hW x hh))⟩
  by_cases hw : x ∈ W
  · exact e2 x hw
  · rw [r2.frame x hw, h2 x (.inr hx), h.frame x hw]
theorem regD_trace {P : Program} {T n : Nat} {ops : Array Oper} {K : SL → Nat → List RW → Prop} : ∀ (os : List Oper) (i : Nat) (st : SL) (acc : List RW), ops.toList.drop i = os → acc.length = i → regD P T ops os st (n + 64 * i) acc K →
    ∃ (f : Nat → St) (acc' : List RW) (st' : SL), K st' (n + 64 * (i + os.length)) acc' ∧ (∀ k, k < i → acc'[k]? = acc[k]?) ∧ f i = lk st ∧ f (i + os.length) = lk st' ∧ ∀ j, i ≤ j → j < i + os.length → StepAt P T n ops [] f acc' j
  | [], i, st, acc, hos, hl, h => ⟨fun _ => lk st, acc, st, by simp only [regD] at h; simpa using h, fun _ _ => rfl, rfl, rfl, fun j h1 h2 => by simp at h2; omega⟩
  | o :: os, i, st, acc, hos, hl, h => by
    have hi : ops[i]? = some o := by
      have := congrArg (·[0]?) hos
      simpa using this
    have hos' : ops.toList.drop (i + 1) = os := by
      have := congrArg (List.drop 1) hos
      simpa [List.drop_drop, Nat.add_comm] using this
    simp only [regD] at h
    obtain ⟨hd, l, h⟩ := h
    obtain ⟨u, st1, R', W', R2, W2, h1, h2, hR, hW⟩ := Prog.wp_run h
    have en : n + 64 * i + 64 = n + 64 * (i + 1) := by omega
    rw [en] at h2
    obtain ⟨f, acc', st', k1, k2, k3, k4, k5⟩ := regD_trace os (i + 1) st1 (acc ++ [(R2, W2)]) hos' (by simp [hl]) h2
    refine ⟨fun k => if k ≤ i then lk st else f k, acc', st', ?_, ?_, by simp, ?_, ?_⟩
    · rw [List.length_cons, show i + (os.length + 1) = i + 1 + os.length by omega]; exact k1
    · intro k hk
      rw [k2 k (by omega), List.getElem?_append_left (by omega)]
    · have : ¬ i + (o :: os).length ≤ i := by simp
      simp only [this, if_false]
      rw [List.length_cons, show i + (os.length + 1) = i + 1 + os.length by omega]
      exact k4
    · intro j h3 h4
      by_cases hj : j = i
      · subst hj
        have e2 : rwAt acc' j = (R2, W2) := by
          have := k2 j (by omega)
          rw [List.getElem?_append_right (by omega)] at this
          simp [hl] at this
          simp [rwAt, List.getD, this]
        refine StepAt.of hi hd (l := l) (R := R') (W := W') ?_ ?_ ?_ (fun _ h => by cases h) (fun _ h => by cases h)
        · simp only [Nat.le_refl, if_true, show ¬ j + 1 ≤ j by omega, if_false]
          rw [k3]
          exact h1
        · rw [e2]; exact fun x hx => hR x (.inl hx)
        · rw [e2]; exact fun x hx => hW x (.inl hx)
      · obtain ⟨q1, q2, q3, q4⟩ := k5 j (by omega) (by simp at h4; omega)
        refine ⟨?_, ?_, fun _ h => (by cases h), fun _ h => (by cases h)⟩
        · simp only [show ¬ j ≤ i by omega, show ¬ j + 1 ≤ i by omega, if_false]
          exact q1
        · simp only [show ¬ j ≤ i by omega, show ¬ j + 1 ≤ i by omega, if_false]
          exact q2
def Steady (P : Program) (nm : Nat) (ops : Array Oper) (o : Oper) (obl : List Cel) (A : List Res) (st : SL) (d : Tmp) (v : V) : Prop :=
  ∀ st2 : St, (∀ x ∈ A, st2 x = lk st x) → Stay st2 obl → ∃ l R W, Run (stepL P nm ops o l) st2 () (upd st2 (.s d) (some (.v v))) R W
def regS (P : Program) (T : Nat) (ops : Array Oper) (obl : List Cel) : List Oper → SL → Nat → List RW → (SL → Nat → List RW → Prop) → Prop
  | [], st, n, acc, K => Stay (lk st) obl ∧ K st n acc
  | o :: os, st, n, acc, K => Stay (lk st) obl ∧ dstOk T o.dst ∧
      ((∃ l, (stepL P n ops o l).wp st [] [] fun _ st' R W => regS P T ops obl os st' (n + 64) (acc ++ [(R, W)]) K) ∨
       (∃ A d v, Steady P n ops o obl A st d v ∧ regS P T ops obl os ((.s d, some (.v v)) :: st) (n + 64) (acc ++ [(A, [.s d])]) K))
theorem regS_stay {P : Program} {T n : Nat} {ops : Array Oper} {obl : List Cel} {K : SL → Nat → List RW → Prop} : ∀ {os : List Oper} {st : SL} {acc : List RW}, regS P T ops obl os st n acc K → Stay (lk st) obl
  | [], _, _, h => h.1
  | _ :: _, _, _, h => h.1
theorem regS_trace {P : Program} {T n : Nat} {ops : Array Oper} {obl : List Cel} {K : SL → Nat → List RW → Prop} : ∀ (os : List Oper) (i : Nat) (st : SL) (acc : List RW), ops.toList.drop i = os → acc.length = i → regS P T ops obl os st (n + 64 * i) acc K →
    ∃ (f : Nat → St) (acc' : List RW) (st' : SL), K st' (n + 64 * (i + os.length)) acc' ∧ (∀ k, k < i → acc'[k]? = acc[k]?) ∧ f i = lk st ∧ f (i + os.length) = lk st' ∧ ∀ j, i ≤ j → j < i + os.length → StepAt P T n ops obl f acc' j
  | [], i, st, acc, hos, hl, h => ⟨fun _ => lk st, acc, st, by simp only [regS] at h; simpa using h.2, fun _ _ => rfl, rfl, rfl, fun j h1 h2 => by simp at h2; omega⟩
  | o :: os, i, st, acc, hos, hl, h => by
    have hi : ops[i]? = some o := by
      have := congrArg (·[0]?) hos
      simpa using this
    have hos' : ops.toList.drop (i + 1) = os := by
      have := congrArg (List.drop 1) hos
      simpa [List.drop_drop, Nat.add_comm] using this
    simp only [regS] at h
    obtain ⟨hs0, hd, h⟩ := h
    have en : n + 64 * i + 64 = n + 64 * (i + 1) := by omega
    have key : ∃ (st1 : SL) (R2 W2 : List Res), regS P T ops obl os st1 (n + 64 * (i + 1)) (acc ++ [(R2, W2)]) K ∧
        ∀ (f : Nat → St) (acc' : List RW), f i = lk st → f (i + 1) = lk st1 → rwAt acc' i = (R2, W2) → StepAt P T n ops obl f acc' i := by
      rcases h with ⟨l, h⟩ | ⟨A, d, v, h1, h2⟩
      · obtain ⟨u, st1, R', W', R2, W2, h1, h2, hR, hW⟩ := Prog.wp_run h
        rw [en] at h2
        refine ⟨st1, R2, W2, h2, fun f acc' e0 e1 e2 => StepAt.of hi hd (l := l) (R := R') (W := W') (by rw [e0, e1]; exact h1) (by rw [e2]; exact fun x hx => hR x (.inl hx)) (by rw [e2]; exact fun x hx => hW x (.inl hx)) (by rw [e0]; exact hs0) (by rw [e1]; exact regS_stay h2)⟩
      · rw [en] at h2
        refine ⟨_, A, [.s d], h2, fun f acc' e0 e1 e2 => ⟨⟨o, hi, hd, fun st2 g1 g2 => ?_⟩, fun x hx => ?_, by rw [e0]; exact hs0, by rw [e1]; exact regS_stay h2⟩⟩
        · rw [e2] at g1 ⊢
          obtain ⟨l, R, W, r⟩ := h1 st2 (fun x hx => by rw [g1 x (.inl hx), e0]) g2
          refine ⟨l, R, W, _, r, fun x hx => ?_, fun x hx => ?_⟩
          · rw [List.mem_singleton] at hx
            subst hx
            rw [e1, lk_cons]
            simp [upd]
          · rw [List.mem_singleton] at hx
            simp [upd, hx]
        · rw [e2] at hx
          rw [List.mem_singleton] at hx
          rw [e1, e0, lk_cons]
          simp [upd, hx]
    obtain ⟨st1, R2, W2, h2, hstep⟩ := key
    obtain ⟨f, acc', st', k1, k2, k3, k4, k5⟩ := regS_trace os (i + 1) st1 (acc ++ [(R2, W2)]) hos' (by simp [hl]) h2
    refine ⟨fun k => if k ≤ i then lk st else f k, acc', st', ?_, ?_, by simp, ?_, ?_⟩
    · rw [List.length_cons, show i + (os.length + 1) = i + 1 + os.length by omega]; exact k1
    · intro k hk
      rw [k2 k (by omega), List.getElem?_append_left (by omega)]
    · have : ¬ i + (o :: os).length ≤ i := by simp
      simp only [this, if_false]
      rw [List.length_cons, show i + (os.length + 1) = i + 1 + os.length by omega]
      exact k4
    · intro j h3 h4
      by_cases hj : j = i
      · subst hj
        have e2 : rwAt acc' j = (R2, W2) := by
          have := k2 j (by omega)
          rw [List.getElem?_append_right (by omega)] at this
          simp [hl] at this
          simp [rwAt, List.getD, this]
        refine hstep _ acc' (by simp) ?_ e2
        simp only [show ¬ j + 1 ≤ j by omega, if_false]
        exact k3
      · obtain ⟨q1, q2, q3, q4⟩ := k5 j (by omega) (by simp at h4; omega)
        refine ⟨?_, ?_, ?_, ?_⟩
        · simp only [show ¬ j ≤ i by omega, show ¬ j + 1 ≤ i by omega, if_false]
          exact q1
        · simp only [show ¬ j ≤ i by omega, show ¬ j + 1 ≤ i by omega, if_false]
          exact q2
        · simp only [show ¬ j ≤ i by omega, if_false]
          exact q3
        · simp only [show ¬ j + 1 ≤ i by omega, if_false]
          exact q4
section
variable {P : Program} {T n : Nat} {ops : Array Oper} {obl : List Cel} {f : Nat → St} {acc : List RW}
def gAt (f : Nat → St) (acc : List RW) (S : Nat → Bool) : Nat → St
  | 0 => f 0
  | k + 1 => fun x => if (S k && (rwAt acc k).2.contains x) = true then f (k + 1) x else gAt f acc S k x
theorem step_frame {j : Nat} (h : StepAt P T n ops obl f acc j) {x : Res} (hx : x ∉ (rwAt acc j).2) : f (j + 1) x = f j x := by
  exact h.frame x hx
theorem gAt_val {S : Nat → Bool} (x : Res) : ∀ k, ∃ k', k' ≤ k ∧ gAt f acc S k x = f k' x
  | 0 => ⟨0, Nat.le_refl _, rfl⟩
  | k + 1 => by
    simp only [gAt]
    split
    · exact ⟨k + 1, Nat.le_refl _, rfl⟩
    · obtain ⟨k', h1, h2⟩ := gAt_val (S := S) x k
      exact ⟨k', by omega, h2⟩
theorem gAt_stay (hst : ∀ j, j < ops.size → StepAt P T n ops obl f acc j) (hpos : 0 < ops.size) (S : Nat → Bool) : Stay (gAt f acc S ops.size) obl := by
  intro c hc
  obtain ⟨k', h1, h2⟩ := gAt_val (f := f) (acc := acc) (S := S) (.r c.1) ops.size
  rw [h2]
  cases k' with
  | zero => exact (hst 0 hpos).stay c hc
  | succ k => exact (hst k (by omega)).stay' c hc
theorem pred_closed {S : Nat → Bool} (hS : ∀ j o, S j = true → ops[j]? = some o → ∀ e ∈ o.after.toList, Region.binds .any e = true → S e.on = true) : ∀ (fuel j i : Nat), predIn ops fuel j i = true → S j = true → S i = true
  | 0, j, i, h, _ => by cases h
  | fuel + 1, j, i, h, hj => by
    unfold predIn at h
    split at h
    · rename_i o ho
      simp only [List.any_eq_true, Bool.and_eq_true, Bool.or_eq_true, beq_iff_eq] at h
      obtain ⟨e, he, hb, h⟩ := h
      have := hS j o hj ho e he hb
      rcases h with rfl | h
      · exact this
      · exact pred_closed hS fuel e.on i h this
    · cases h
theorem clash_of {a b : RW} {x : Res} (h1 : x ∈ a.2) (h2 : x ∈ b.1 ∨ x ∈ b.2) : clash a b = true := by
  simp only [clash, Bool.or_eq_true, List.any_eq_true, List.contains_iff_mem]
  exact .inl ⟨x, h1, h2⟩
theorem clash_of' {a b : RW} {x : Res} (h1 : x ∈ a.1 ∨ x ∈ a.2) (h2 : x ∈ b.2) : clash a b = true := by
  simp only [clash, Bool.or_eq_true, List.any_eq_true, List.contains_iff_mem]
  rcases h1 with h1 | h1
  · exact .inr ⟨x, h1, h2⟩
  · exact .inl ⟨x, h1, .inr h2⟩
theorem ok_clash (hok : okDraw ops acc = true) {i j : Nat} (hij : i < j) (hj : j < ops.size) (hc : clash (rwAt acc i) (rwAt acc j) = true) : predIn ops ops.size j i = true := by
  unfold okDraw at hok
  simp only [List.all_eq_true, List.mem_range, Bool.and_eq_true] at hok
  have := (hok j hj).2 i hij
  simpa [hc] using this
theorem ok_after (hok : okDraw ops acc = true) {j : Nat} {o : Oper} (ho : ops[j]? = some o) : ∀ e ∈ o.after.toList, Region.binds .any e = true → e.on < j := by
  unfold okDraw at hok
  simp only [List.all_eq_true, List.mem_range, Bool.and_eq_true] at hok
  have hj : j < ops.size := (Array.getElem?_eq_some_iff.1 ho).1
  have := (hok j hj).1
  rw [ho] at this
  simp only [List.all_eq_true] at this
  intro e he hb
  simpa [hb] using this e he
theorem g_found (hok : okDraw ops acc = true) (hst : ∀ j, j < ops.size → StepAt P T n ops obl f acc j) {S : Nat → Bool} (hS : ∀ j o, S j = true → ops[j]? = some o → ∀ e ∈ o.after.toList, Region.binds .any e = true → S e.on = true)
    {i : Nat} (hi : i < ops.size) (hiS : S i = false) (hpre : ∀ o, ops[i]? = some o → ∀ e ∈ o.after.toList, Region.binds .any e = true → S e.on = true) {x : Res} (hx : x ∈ (rwAt acc i).1 ∨ x ∈ (rwAt acc i).2) :
    (∀ k, k ≤ i → gAt f acc S k x = f k x) ∧ (∀ k, i ≤ k → k ≤ ops.size → gAt f acc S k x = gAt f acc S i x) := by
  have hS2 : ∀ j o, (S j = true ∨ j = i) → ops[j]? = some o → ∀ e ∈ o.after.toList, Region.binds .any e = true → S e.on = true := by
    rintro j o (h | rfl) ho
    · exact hS j o h ho
    · exact hpre o ho
  have hpred : ∀ k, predIn ops ops.size i k = true → S k = true := by
    intro k hk
    cases hsz : ops.size with
    | zero => omega
    | succ fuel =>
      rw [hsz] at hk
      unfold predIn at hk
      split at hk
      · rename_i o ho
        simp only [List.any_eq_true, Bool.and_eq_true, Bool.or_eq_true, beq_iff_eq] at hk
        obtain ⟨e, he, hb, hk⟩ := hk
        have := hpre o ho e he hb
        rcases hk with rfl | hk
        · exact this
        · exact pred_closed hS fuel e.on k hk this
      · cases hk
  constructor
  · intro k
    induction k with
    | zero => intro _; rfl
    | succ k ih =>
      intro hk
      simp only [gAt]
      split
      · rfl
      · rename_i hn
        rw [ih (by omega)]
        by_cases hw : x ∈ (rwAt acc k).2
        · exfalso
          have := hpred k (ok_clash hok (by omega) hi (clash_of hw hx))
          exact hn (by simp [this, hw])
        · exact (step_frame (hst k (by omega)) hw).symm
  · intro k
    induction k with
    | zero => intro h _; have : i = 0 := by omega
              subst this; rfl
    | succ k ih =>
      intro h1 h2
      by_cases he : i = k + 1
      · subst he; rfl
      · simp only [gAt]
        rw [if_neg]
        · exact ih (by omega) (by omega)
        · intro hn
          simp only [Bool.and_eq_true, List.contains_iff_mem] at hn
          by_cases hki : k = i
          · subst hki; rw [hiS] at hn; cases hn.1
          · have := pred_closed hS ops.size k i (ok_clash hok (by omega) (by omega) (clash_of' hx hn.2)) hn.1
            rw [hiS] at this; cases this
theorem g_step (hok : okDraw ops acc = true) (hst : ∀ j, j < ops.size → StepAt P T n ops obl f acc j) {S S' : Nat → Bool} (hS : ∀ j o, S j = true → ops[j]? = some o → ∀ e ∈ o.after.toList, Region.binds .any e = true → S e.on = true)
    {i : Nat} (hi : i < ops.size) (hiS : S i = false) (hpre : ∀ o, ops[i]? = some o → ∀ e ∈ o.after.toList, Region.binds .any e = true → S e.on = true) (hS' : S' i = true) (hsame : ∀ j, j ≠ i → S' j = S j) :
    ∃ o l R W, ops[i]? = some o ∧ dstOk T o.dst ∧ Run (stepL P (n + 64 * i) ops o l) (gAt f acc S ops.size) () (gAt f acc S' ops.size) R W := by
  obtain ⟨o, h1, h2, h3⟩ := (hst i hi).ex
  have found : ∀ x, (x ∈ (rwAt acc i).1 ∨ x ∈ (rwAt acc i).2) → gAt f acc S ops.size x = f i x := fun x hx => by
    obtain ⟨a1, a2⟩ := g_found hok hst hS hi hiS hpre hx
    rw [a2 ops.size (by omega) (Nat.le_refl _), a1 i (Nat.le_refl _)]
  obtain ⟨l, R, W, st2, r2, e2, e3⟩ := h3 (gAt f acc S ops.size) found (gAt_stay hst (by omega) S)
  have hin : ∀ x, x ∈ (rwAt acc i).2 → gAt f acc S' ops.size x = f (i + 1) x := by
    intro x hx
    have key : ∀ k, i + 1 ≤ k → k ≤ ops.size → gAt f acc S' k x = f (i + 1) x := by
      intro k
      induction k with
      | zero => intro h _; omega
      | succ k ih =>
        intro h6 h7
        simp only [gAt]
        by_cases hk : k = i
        · subst hk
          rw [if_pos (by simp [hS', hx])]
        · rw [if_neg, ih (by omega) (by omega)]
          intro hn
          simp only [Bool.and_eq_true, List.contains_iff_mem] at hn
          rw [hsame k hk] at hn
          have := pred_closed hS ops.size k i (ok_clash hok (by omega) (by omega) (clash_of hx (.inr hn.2))) hn.1
          rw [hiS] at this; cases this
    exact key _ hi (Nat.le_refl _)
  have hout : ∀ x, x ∉ (rwAt acc i).2 → gAt f acc S' ops.size x = gAt f acc S ops.size x := by
    intro x hx
    have key : ∀ k, gAt f acc S' k x = gAt f acc S k x := by
      intro k
      induction k with
      | zero => rfl
      | succ k ih =>
        simp only [gAt]
        by_cases hk : k = i
        · subst hk
          rw [if_neg (by simp [hx]), if_neg (by simp [hx]), ih]
        · rw [hsame k hk, ih]
    exact key _
  have e : st2 = gAt f acc S' ops.size := by
    funext x
    by_cases hw : x ∈ (rwAt acc i).2
    · rw [e2 x hw, hin x hw]
    · rw [e3 x hw, hout x hw]
  subst e
  exact ⟨o, l, R, W, h1, h2, r2⟩
theorem g_all (hst : ∀ j, j < ops.size → StepAt P T n ops obl f acc j) {S : Nat → Bool} (hS : ∀ j, j < ops.size → S j = true) : ∀ k, k ≤ ops.size → gAt f acc S k = f k
  | 0, _ => rfl
  | k + 1, hk => by
    funext x
    simp only [gAt, hS k (by omega), Bool.true_and]
    split
    · rfl
    · rename_i hn
      rw [g_all hst hS k (by omega)]
      exact (step_frame (hst k (by omega)) (by simpa using hn)).symm
end
section
variable {P : Program} {T n : Nat} {ops : Array Oper} {obl : List Cel} {f : Nat → St} {acc : List RW} {Γ : Ctx} {Q : Exit → Act → World → Prop}
def setT (S : Nat → Bool) (i : Nat) : Nat → Bool := fun j => if j = i then true else S j
def cnt (S : Nat → Bool) : Nat → Nat
  | 0 => 0
  | k + 1 => cnt S k + (if S k then 0 else 1)
theorem cnt_set {S : Nat → Bool} {i : Nat} (hi : S i = false) : ∀ m, cnt (setT S i) m + (if i < m then 1 else 0) = cnt S m
  | 0 => by simp [cnt]
  | m + 1 => by
    simp only [cnt]
    have ih := cnt_set hi m
    by_cases h : m = i
    · subst h
      simp [setT, hi] at ih ⊢
      omega
    · have e : setT S i m = S m := by simp [setT, h]
      rw [e]
      by_cases h2 : i < m
      · simp [h2] at ih; simp [show i < m + 1 by omega]; omega
      · simp [h2] at ih; simp [show ¬ i < m + 1 by omega]; omega
theorem cnt_zero {S : Nat → Bool} : ∀ {m}, cnt S m = 0 → ∀ j, j < m → S j = true
  | 0, _, j, hj => by omega
  | m + 1, h, j, hj => by
    simp only [cnt] at h
    by_cases e : j = m
    · subst e
      by_cases hs : S j = true
      · exact hs
      · simp [hs] at h
    · exact cnt_zero (m := m) (by omega) j (by omega)
def Nm (n m : Nat) (S : Nat → Bool) (r : Nat) : Prop := r < n ∨ ∃ j, j < m ∧ S j = true ∧ n + 64 * j ≤ r ∧ r < n + 64 * j + 64
theorem draw_any (hok : okDraw ops acc = true) (hst : ∀ j, j < ops.size → StepAt P T n ops obl f acc j)
    (hfin : ∀ a w, a.tmps.size = T → a.defers = [] → Sat Γ (· < n + 64 * ops.size) (f ops.size) a.tmps w → Q .normal a w) :
    ∀ (fuel : Nat) (listed : Array Bool) (a : Act) (w : World), listed.size = ops.size → cnt (listed.getD · false) ops.size ≤ fuel →
    (∀ j o, listed.getD j false = true → ops[j]? = some o → ∀ e ∈ o.after.toList, Region.binds .any e = true → listed.getD e.on false = true) →
    a.tmps.size = T → a.defers = [] → Sat Γ (Nm n ops.size (listed.getD · false)) (gAt f acc (listed.getD · false) ops.size) a.tmps w → wpAny P .any ops Q fuel listed a w := by
  -- where all is done
  have all_done : ∀ (S : Nat → Bool) (a : Act) (w : World), (∀ j, j < ops.size → S j = true) → a.tmps.size = T → a.defers = [] → Sat Γ (Nm n ops.size S) (gAt f acc S ops.size) a.tmps w → Q .normal a w := by
    intro S a w hS hs hd hsat
    rw [g_all hst hS ops.size (Nat.le_refl _)] at hsat
    obtain ⟨Z, B, ρ, F, h⟩ := hsat
    refine hfin a w hs hd ⟨Z, B, ρ, F, h.weakN ?_⟩
    rintro r (hr | ⟨j, h1, _, h3, h4⟩)
    · omega
    · have : 64 * j + 64 ≤ 64 * ops.size := by omega
      omega
  -- the first that is not done is ready
  have some_ready : ∀ listed : Array Bool, listed.size = ops.size → Region.ready .any ops listed = [] → ∀ j, j < ops.size → listed.getD j false = true := by
    intro listed hsz hr j
    induction j using Nat.strongRecOn with
    | _ j ih =>
      intro hj
      by_cases hl : listed.getD j false = true
      · exact hl
      · exfalso
        have hm : j ∈ Region.ready .any ops listed := by
          unfold Region.ready
          rw [List.mem_filter]
          refine ⟨List.mem_range.2 hj, ?_⟩
          have ho : ops[j]? = some ops[j] := Array.getElem?_eq_getElem hj
          have hl' : listed.getD j true = false := by
            have : j < listed.size := by omega
            simp [Array.getD_eq_getD_getElem?, this] at hl ⊢
            exact hl
          simp only [hl', Bool.not_false, Bool.true_and, ho, Option.map_some, Option.getD_some]
          rw [← Array.all_toList, List.all_eq_true]
          intro e he
          by_cases hb : Region.binds .any e = true
          · have hlt := ok_after hok ho e he hb
            simp [hb, ih e.on hlt (by omega)]
          · simp [hb]
        rw [hr] at hm
        cases hm
  intro fuel
  induction fuel with
  | zero =>
    intro listed a w hsz hc hcl hs hd hsat
    have hall := cnt_zero (show cnt (listed.getD · false) ops.size = 0 by omega)
    refine ⟨?_, all_done _ a w hall hs hd hsat⟩
    unfold Region.ready
    rw [List.filter_eq_nil_iff]
    intro j hj
    have hlt : j < ops.size := List.mem_range.1 hj
    have := hall j hlt
    have hl : listed.getD j true = true := by
      have h2 : j < listed.size := by omega
      simp [Array.getD_eq_getD_getElem?, h2] at this ⊢
      exact this
    simp [hl]
  | succ fuel ih =>
    intro listed a w hsz hc hcl hs hd hsat
    refine ⟨fun hr => all_done _ a w (some_ready listed hsz hr) hs hd hsat, ?_⟩
    intro i hi
    unfold Region.ready at hi
    rw [List.mem_filter] at hi
    obtain ⟨hi1, hi2⟩ := hi
    have hlt : i < ops.size := List.mem_range.1 hi1
    have ho : ops[i]? = some ops[i] := Array.getElem?_eq_getElem hlt
    simp only [Bool.and_eq_true, Bool.not_eq_true', ho, Option.map_some, Option.getD_some] at hi2
    obtain ⟨hl, hafter⟩ := hi2
    have hl' : listed.getD i false = false := by
      have h2 : i < listed.size := by omega
      simp [Array.getD_eq_getD_getElem?, h2] at hl ⊢
      exact hl
    rw [← Array.all_toList, List.all_eq_true] at hafter
    have hpre : ∀ o, ops[i]? = some o → ∀ e ∈ o.after.toList, Region.binds .any e = true → listed.getD e.on false = true := by
      intro o ho' e he hb
      rw [ho] at ho'
      simp only [Option.some.injEq] at ho'
      subst ho'
      have := hafter e he
      simpa [hb] using this
    have hnew : (fun j => (listed.setIfInBounds i true).getD j false) = setT (listed.getD · false) i := by
      funext j
      simp only [setT, Array.getD_eq_getD_getElem?, Array.getElem?_setIfInBounds]
      by_cases e : j = i
      · subst e
        simp [show j < listed.size by omega]
      · simp [e, Ne.symm e]
    obtain ⟨o, l, R, W, h1, h2, h3⟩ := g_step (S := (listed.getD · false)) (S' := setT (listed.getD · false) i) hok hst hcl hlt hl' hpre (by simp [setT]) (fun j hj => by simp [setT, hj])
    refine step_sound h1 h3 (by rw [hs]; exact h2) hsat ?_ ?_
    · rintro r hr1 hr2 (hr | ⟨j, hj1, hj2, hj3, hj4⟩)
      · omega
      · have : j = i := by omega
        subst this
        have hj2' : listed.getD j false = true := hj2
        rw [hl'] at hj2'
        cases hj2'
    · intro a' w' k1 k2 k3
      refine ih _ a' w' (by simpa using hsz) ?_ ?_ (by rw [k1, hs]) (by rw [k2, hd]) ?_
      · have := cnt_set (S := (listed.getD · false)) hl' ops.size
        rw [if_pos hlt] at this
        rw [hnew]
        omega
      · intro j o' hj ho' e he hb
        have hj' : setT (listed.getD · false) i j = true := by rw [← hnew]; exact hj
        have goal : setT (listed.getD · false) i e.on = true := by
          simp only [setT] at hj' ⊢
          split
          · rfl
          · split at hj'
            · rename_i e2
              subst e2
              exact hpre o' ho' e he hb
            · exact hcl j o' hj' ho' e he hb
        rw [← hnew] at goal
        exact goal
      · rw [hnew]
        obtain ⟨Z, B, ρ, F, k3⟩ := k3
        refine ⟨Z, B, ρ, F, k3.weakN ?_⟩
        rintro r ((hr | ⟨j, hj1, hj2, hj3, hj4⟩) | ⟨hr1, hr2⟩)
        · exact .inl hr
        · refine .inr ⟨j, hj1, ?_, hj3, hj4⟩
          simp only [setT]
          split
          · rfl
          · exact hj2
        · exact .inr ⟨i, hlt, by simp [setT], hr1, hr2⟩
theorem draw_tr {st : SL} {K : SL → Nat → Prop} (hm : P.follows .mixedOrders = true) (h : ∃ (f : Nat → St) (acc' : List RW) (st' : SL), (okDraw ops acc' = true ∧ K st' (n + 64 * (0 + ops.toList.length))) ∧ f 0 = lk st ∧ f (0 + ops.toList.length) = lk st' ∧ ∀ j, 0 ≤ j → j < 0 + ops.toList.length → StepAt P T n ops obl f acc' j) : DrawW P T ops st n K := by
  intro Γ a w Q hs hd hsat hk t
  obtain ⟨f, acc, st', ⟨hok, hK⟩, hf0, hfm, hst⟩ := h
  simp only [Nat.zero_add, Array.length_toList] at hf0 hfm hst hK
  simp only [Region.schedule, hm, Bool.true_or, if_true]
  refine wpAny_sound ops.size t _ a w ?_
  refine draw_any (Γ := Γ) (n := n) hok (fun j hj => hst j (by omega) hj) ?_ ops.size (Array.replicate ops.size false) a w (by simp) ?_ ?_ hs hd ?_
  · intro a' w' h1 h2 h3
    rw [hfm] at h3
    exact hk st' _ a' w' (by omega) hK h1 h2 h3
  · have : ∀ (S : Nat → Bool) (m : Nat), cnt S m ≤ m := by
      intro S m
      induction m with
      | zero => simp [cnt]
      | succ m ih =>
        simp only [cnt]
        split <;> omega
    exact this _ _
  · intro j o hj
    simp [Array.getD_eq_getD_getElem?, Array.getElem?_replicate] at hj
    split at hj <;> cases hj
  · have e : ∀ k, gAt f acc (fun j => (Array.replicate ops.size false).getD j false) k = f 0 := by
      intro k
      induction k with
      | zero => rfl
      | succ k ih =>
        funext x
        simp only [gAt]
        rw [if_neg]
        · rw [ih]
        · intro hn
          simp [Array.getD_eq_getD_getElem?, Array.getElem?_replicate] at hn
          have := hn.1
          split at this <;> cases this
    rw [e, hf0]
    obtain ⟨Z, B, ρ, F, h⟩ := hsat
    exact ⟨Z, B, ρ, F, h.weakN (fun r hr => .inl hr)⟩
theorem draw_of {st : SL} {K : SL → Nat → Prop} (hm : P.follows .mixedOrders = true) (h : regD P T ops ops.toList st n [] fun st' n' acc => okDraw ops acc = true ∧ K st' n') : DrawW P T ops st n K := by
  obtain ⟨f, acc, st', h1, -, hf0, hfm, hst⟩ := regD_trace (P := P) (T := T) (n := n) (ops := ops) ops.toList 0 st [] (by simp) rfl (by simpa using h)
  exact draw_tr (obl := []) hm ⟨f, acc, st', h1, hf0, hfm, hst⟩
theorem drawS_of {st : SL} {K : SL → Nat → Prop} (hm : P.follows .mixedOrders = true) (h : regS P T ops obl ops.toList st n [] fun st' n' acc => okDraw ops acc = true ∧ K st' n') : DrawW P T ops st n K := by
  obtain ⟨f, acc, st', h1, -, hf0, hfm, hst⟩ := regS_trace (P := P) (T := T) (n := n) (ops := ops) (obl := obl) ops.toList 0 st [] (by simp) rfl (by simpa using h)
  exact draw_tr (obl := obl) hm ⟨f, acc, st', h1, hf0, hfm, hst⟩
end
section
variable {P : Program} {T : Nat} {st : SL} {n : Nat} {Q : Exit → SL → Nat → Prop} {ops : Array Oper} {os : List Oper} {acc : List RW} {K : SL → Nat → List RW → Prop}
theorem aw_draw {i : Nat} {l : List Oper} (hm : P.follows .mixedOrders = true) (h : regD P T l.toArray l st n [] fun st' n' acc => okDraw l.toArray acc = true ∧ Q .normal st' n') : aw P T (.region i l.toArray true) st n Q :=
  draw_of hm h
theorem regD_nil (h : K st n acc) : regD P T ops [] st n acc K := h
theorem regD_op {o : Oper} {n' : Nat} (hd : dstOk T o.dst) (hn : n + 64 = n')
    (h : ∀ k : Unit → SL → List Res → List Res → Prop, (∀ u st' R W, regD P T ops os st' n' (acc ++ [(R, W)]) K → k u st' R W) → (stepP P n ops o).wp st [] [] k) : regD P T ops (o :: os) st n acc K := by
  subst hn
  exact ⟨hd, [], h _ fun _ _ _ _ x => x⟩
theorem regD_opL (l : List (Nat × Option Nat)) {o : Oper} {n' : Nat} (hd : dstOk T o.dst) (hn : n + 64 = n')
    (h : ∀ k : Unit → SL → List Res → List Res → Prop, (∀ u st' R W, regD P T ops os st' n' (acc ++ [(R, W)]) K → k u st' R W) → (stepL P n ops o l).wp st [] [] k) : regD P T ops (o :: os) st n acc K := by
  subst hn
  exact ⟨hd, l, h _ fun _ _ _ _ x => x⟩
end
end Go.Proofs.YtdlaplgofgklnaaGreat.L
namespace Go.Proofs.YtdlaplgofgklnaaGreat.L
open Go.ChangeShapes Go.WideShapes Go.RowKit
set_option linter.unusedVariables false
set_option linter.unusedSimpArgs false
inductive All2 {α β : Type} (R : α → β → Prop) : List α → List β → Prop
  | nil : All2 R [] []
  | cons {a : α} {b : β} {as : List α} {bs : List β} : R a b → All2 R as bs → All2 R (a :: as) (b :: bs)
def tileB (P : Program) : List Field → Nat → Nat → Bool
  | [], o, n => o == n
  | f :: fs, o, n => f.offset == o && tileB P fs (o + P.cellsOf f.type) n
def plainT (P : Program) : Nat → TypeId → Bool
  | 0, _ => false
  | n + 1, t => match P.underlying t with
    | some (.int _) => true
    | some .bool => true
    | some .string => true
    | some (.slice e) => decide (0 < P.cellsOf e) && plainT P n e
    | some (.struct fs) => tileB P fs.toList 0 (P.cellsOf t) && fs.toList.all fun f => plainT P n f.type
    | _ => false
def Shp (P : Program) : Nat → TypeId → List D → Prop
  | 0, _, _ => False
  | n + 1, t, ds => match P.underlying t with
    | some (.int k) => ∃ z, ds = [.p (.int k z)] ∧ (Lit.int k z).wf = true
    | some .bool => ∃ b, ds = [.p (.bool b)]
    | some .string => ∃ s : ByteArray, ds = [.p (.string s)] ∧ s.size ≤ maxLen
    | some (.slice e) => ∃ xs, ds = [.row .bor (P.cellsOf e) xs] ∧ xs.length ≤ maxLen ∧ ∀ x ∈ xs, Shp P n e x
    | some (.struct fs) => ∃ dss, ds = dss.flatten ∧ All2 (fun f d => Shp P n f.type d) fs.toList dss
    | _ => False
section
variable {H : Type} {enc : TypeId × Value → H} {P : Program} {w : World} {base : Nat} {spare : Nat → Bool} {held : Bool}
abbrev RelB (w : World) (ds : List D) (vs : List Value) : Prop := RelDs (fun _ => False) (fun k => k < w.heap.size) w ds vs []
theorem rows_of {P : Program} {W : World} {b o s m : Nat} {e : TypeId} (hs : 0 < s) : ∀ (len j : Nat), (∀ i, i < len → ∃ (cs : List Value) (ds : List D), cs.length = s ∧ RelB W ds cs ∧ Shp P m e ds ∧ ∀ q, q < s → W.cell? ⟨b, o + (j + i) * s + q, none⟩ = cs[q]?) →
    ∃ (xs : List (List D)) (us : List Value), xs.length = len ∧ RelB W xs.flatten us ∧ (∀ x ∈ xs, x.length = s) ∧ (∀ x ∈ xs, Shp P m e x) ∧ W.rangeAt b (o + j * s) us
  | 0, j, _ => ⟨[], [], rfl, .nil, by simp, by simp, by intro j u h; simp at h⟩
  | len + 1, j, h => by
    obtain ⟨cs, ds, h1, h2, h3, h4⟩ := h 0 (by omega)
    obtain ⟨xs, us, k1, k2, k3, k4, k5⟩ := rows_of hs len (j + 1) (fun i hi => by
      obtain ⟨cs, ds, a1, a2, a3, a4⟩ := h (i + 1) (by omega)
      exact ⟨cs, ds, a1, a2, a3, fun q hq => by rw [← a4 q hq, show j + 1 + i = j + (i + 1) by omega]⟩)
    have hl : ds.length = s := by rw [h2.length, h1]
    refine ⟨ds :: xs, cs ++ us, by simp [k1], by simpa using RelDs.append h2 k2, ?_, ?_, ?_⟩
    · intro x hx
      rcases List.mem_cons.1 hx with rfl | hx
      · exact hl
      · exact k3 x hx
    · intro x hx
      rcases List.mem_cons.1 hx with rfl | hx
      · exact h3
      · exact k4 x hx
    · rw [rangeAt_append, h1]
      refine ⟨fun q u hq => ?_, by rw [show o + j * s + s = o + (j + 1) * s by rw [Nat.add_mul]; omega]; exact k5⟩
      have hq' : q < s := by rw [← h1]; exact (List.getElem?_eq_some_iff.1 hq).1
      have := h4 q hq'
      rw [Nat.add_zero] at this
      rw [this, hq]
theorem fields_of {P : Program} {W : World} {m N : Nat} {cs : List Value} (hN : N = cs.length) : ∀ (fl : List Field) (o : Nat), tileB P fl o N = true →
    (∀ f ∈ fl, ∃ ds, RelB W ds ((cs.drop f.offset).take (P.cellsOf f.type)) ∧ Shp P m f.type ds) → ∃ dss : List (List D), RelB W dss.flatten (cs.drop o) ∧ All2 (fun f d => Shp P m f.type d) fl dss
  | [], o, ht, _ => by
    simp only [tileB, beq_iff_eq] at ht
    exact ⟨[], by rw [List.drop_of_length_le (by omega)]; exact .nil, .nil⟩
  | f :: fl, o, ht, h => by
    simp only [tileB, Bool.and_eq_true, beq_iff_eq] at ht
    obtain ⟨ho, ht⟩ := ht
    obtain ⟨ds, h1, h2⟩ := h f (by simp)
    obtain ⟨dss, k1, k2⟩ := fields_of hN fl _ ht (fun g hg => h g (by simp [hg]))
    refine ⟨ds :: dss, ?_, .cons h2 k2⟩
    have := RelDs.append h1 k1
    rw [ho, ← List.drop_drop, List.take_append_drop] at this
    simpa using this
theorem trod_shape : ∀ (m fuel : Nat) (t : TypeId) (cs : List Value) (x : DataW H × List MemPlace), plainT P m t = true → DataW.trod enc P w base (fun _ => true) held fuel t cs = some x →
    ∃ ds, RelB w ds cs ∧ Shp P m t ds
  | 0, fuel, t, cs, x, hp, h => by cases hp
  | m + 1, fuel, t, cs, x, hp, h => by
    unfold plainT at hp
    split at hp
    · rename_i k hu
      obtain ⟨z, rfl, -, hw⟩ := DataW.trod_int hu h
      exact ⟨[.p (.int k z)], .p rfl .nil, by unfold Shp; rw [hu]; exact ⟨z, rfl, hw⟩⟩
    · rename_i hu
      obtain ⟨b, rfl, -⟩ := DataW.trod_bool hu h
      exact ⟨[.p (.bool b)], .p rfl .nil, by unfold Shp; rw [hu]; exact ⟨b, rfl⟩⟩
    · rename_i hu
      obtain ⟨s, rfl, -, hw⟩ := DataW.trod_string hu h
      exact ⟨[.p (.string s)], .p rfl .nil, by unfold Shp; rw [hu]; exact ⟨s, rfl, hw⟩⟩
    · rename_i e hu
      simp only [Bool.and_eq_true, decide_eq_true_eq] at hp
      rcases DataW.trod_slice hu h with ⟨rfl, -⟩ | ⟨a, len, cap, elems, rest, n, -, rfl, -, hb, hl, hm, hlen, hel, hsp, -⟩
      · exact ⟨[.row .bor (P.cellsOf e) []], .none .nil, by unfold Shp; rw [hu]; exact ⟨[], rfl, by simp, by simp⟩⟩
      · by_cases hc : cap = 0
        · have h0 : len = 0 := by omega
          subst hc; subst h0
          exact ⟨[.row .bor (P.cellsOf e) []], .none .nil, by unfold Shp; rw [hu]; exact ⟨[], rfl, by simp, by simp⟩⟩
        · -- all cells of the row, the spare ones too, are there
          obtain ⟨hrl, hr⟩ := hsp rfl
          have cell : ∀ i, i < cap → ∃ c2 y, w.cells? base (a.add (i * P.cellsOf e)) (P.cellsOf e) = some c2 ∧ DataW.trod enc P w base (fun _ => true) held n e c2 = some y := by
            intro i hi
            by_cases hil : i < len
            · have := hel i hil
              have hsome : elems[i]? = some elems[i] := List.getElem?_eq_getElem (by omega)
              rw [hsome] at this
              obtain ⟨c2, h1, h2⟩ := Option.bind_eq_some_iff.1 this
              exact ⟨c2, _, h1, h2⟩
            · have := hr (i - len) (by omega)
              have hsome : rest[i - len]? = some rest[i - len] := List.getElem?_eq_getElem (by omega)
              rw [hsome, show len + (i - len) = i by omega] at this
              obtain ⟨c2, h1, h2⟩ := Option.bind_eq_some_iff.1 this
              exact ⟨c2, _, h1, h2⟩
          have hspot : ∃ b o, a = ⟨b, o, none⟩ := by
            obtain ⟨b, o, sp⟩ := a
            cases sp with
            | none => exact ⟨b, o, rfl⟩
            | some q =>
              exfalso
              obtain ⟨c2, y, h1, -⟩ := cell 0 (by omega)
              obtain ⟨-, h3, h4⟩ := World.cells?_some h1
              have h5 := h4 0 hp.1
              have h6 : c2[0]? = some c2[0] := List.getElem?_eq_getElem (by omega)
              rw [h6] at h5
              simp [World.cell?, Addr.add] at h5
              split at h5 <;> simp_all
          obtain ⟨b, o, rfl⟩ := hspot
          obtain ⟨xs, us, k1, k2, k3, k4, k5⟩ := rows_of (W := w) (b := b) (o := o) (s := P.cellsOf e) (m := m) (e := e) (P := P) hp.1 len 0 (by
            intro i hi
            obtain ⟨c2, y, h1, h2⟩ := cell i (by omega)
            obtain ⟨ds, h3, h4⟩ := trod_shape m n e c2 y hp.2 h2
            obtain ⟨-, h5, h6⟩ := World.cells?_some h1
            refine ⟨c2, ds, h5, h3, h4, fun q hq => ?_⟩
            rw [← h6 q hq, Addr.add_mid, Addr.add_mid, Nat.zero_add])
          have hlt : b < w.heap.size := by
            obtain ⟨c2, y, h1, -⟩ := cell 0 (by omega)
            obtain ⟨-, h3, h4⟩ := World.cells?_some h1
            have h5 := h4 0 hp.1
            have h6 : c2[0]? = some c2[0] := List.getElem?_eq_getElem (by omega)
            rw [h6, Addr.add_mid, Addr.add_mid] at h5
            rcases Nat.lt_or_ge b w.heap.size with hlt | hge
            · exact hlt
            · simp [World.cell?, Array.getElem?_eq_none hge] at h5
          have hrow := RelDs.row (Z := fun _ => False) (B := fun k => k < w.heap.size) (m := .bor) (s := P.cellsOf e) (c := cap) k2 (by simpa using k5) hlt (fun hh => by cases hh) (fun _ => rfl) k3 (by omega) .nil
          rw [k1] at hrow
          exact ⟨[.row .bor (P.cellsOf e) xs], by simpa [Md.foot] using hrow, by unfold Shp; rw [hu]; exact ⟨xs, rfl, by omega, k4⟩⟩
    · rename_i fs hu
      simp only [Bool.and_eq_true, List.all_eq_true] at hp
      obtain ⟨xs, n, -, -, hl, hlen, hfield⟩ := DataW.trod_struct hu h
      obtain ⟨dss, k1, k2⟩ := fields_of (P := P) (W := w) (m := m) (cs := cs) hl.symm fs.toList 0 hp.1 (by
        intro f hf
        obtain ⟨i, hi⟩ := List.getElem?_of_mem hf
        have hi' : fs[i]? = some f := by simpa using hi
        have hlt : i < xs.length := by rw [hlen]; exact (Array.getElem?_eq_some_iff.1 hi').1
        have := hfield i f hi'
        rw [List.getElem?_eq_getElem hlt] at this
        exact trod_shape m n f.type _ _ (hp.2 f hf) this)
      exact ⟨dss.flatten, by simpa using k1, by unfold Shp; rw [hu]; exact ⟨dss, rfl, k2⟩⟩
    · cases hp
end
section
variable {H : Type} {enc : TypeId × Value → H} {P : Program} {w : World} {base : Nat}
def ShpV (P : Program) (m : Nat) (t : TypeId) (x : V) : Prop := match P.underlying t with
  | some (.struct _) => ∃ ds, x = .agg (ds.map V.d) ∧ Shp P m t ds
  | _ => ∃ d, x = .d d ∧ Shp P m t [d]
theorem arg_shape {m : Nat} {t : TypeId} {v : Value} {d : DataW H} {p : List MemPlace} (hv : Value.okWide P w .any base t v) (h : DataW.Trod enc P w 0 (fun _ => true) true t v d p) (hp : plainT P m t = true) :
    ∃ x : V, RelVs (fun _ => False) (fun k => k < w.heap.size) w (fun _ => none) [x] [v] [] ∧ ShpV P m t x := by
  obtain ⟨fuel, hf⟩ := h
  obtain ⟨ds, h1, h2⟩ := trod_shape m fuel t _ _ hp hf
  unfold ShpV
  cases hu : P.underlying t with
  | none =>
    cases m with
    | zero => cases hp
    | succ m => simp [plainT, hu] at hp
  | some u =>
    by_cases hs : ∃ fs, u = .struct fs
    · obtain ⟨fs, rfl⟩ := hs
      simp only [Value.okWide, hu] at hv
      obtain ⟨cs, rfl, -, -⟩ := hv
      refine ⟨.agg (ds.map V.d), ?_, ds, rfl, h2⟩
      have := RelVs.agg (RelVs.ofD (ρ := fun _ => none) h1) h1.one .nil
      simpa [Value.cells] using this
    · have single : v.cells = #[v] := by
        simp only [Value.okWide, hu] at hv
        cases v with
        | agg cs =>
          exfalso
          cases u <;> simp_all [Cell.okWide, Cell.ok, plainT]
          all_goals (cases m <;> simp_all [plainT])
        | _ => rfl
      rw [single] at h1
      have hl := h1.length
      match ds, hl with
      | [d0], _ =>
        refine ⟨.d d0, RelVs.ofD (ds := [d0]) h1, ?_⟩
        cases u <;> first | exact ⟨d0, rfl, h2⟩ | exact absurd ⟨_, rfl⟩ hs
theorem args_shape {m : Nat} : ∀ {ts : List TypeId} {vs : List Value} {ds : List (DataW H)} {ps : List MemPlace}, DataW.TrodAll enc P w 0 (fun _ => true) true ts vs ds ps →
    (∀ (j : Nat) (t : TypeId) (v : Value), ts[j]? = some t → vs[j]? = some v → Value.okWide P w .any base t v) → (∀ t ∈ ts, plainT P m t = true) →
    ∃ xs : List V, RelVs (fun _ => False) (fun k => k < w.heap.size) w (fun _ => none) xs vs [] ∧ All2 (ShpV P m) ts xs
  | [], vs, ds, ps, h, _, _ => by
    obtain ⟨rfl, rfl, rfl⟩ := trodAll_nil h
    exact ⟨[], .nil, .nil⟩
  | t :: ts, vs, ds, ps, h, hv, hp => by
    obtain ⟨v, vs1, d, ds1, a, b, rfl, rfl, rfl, h1, h2⟩ := trodAll_cons h
    obtain ⟨x, k1, k2⟩ := arg_shape (hv 0 t v rfl rfl) h1 (hp t (by simp))
    obtain ⟨xs, k3, k4⟩ := args_shape h2 (fun j t v e1 e2 => hv (j + 1) t v (by simpa using e1) (by simpa using e2)) (fun t ht => hp t (by simp [ht]))
    exact ⟨x :: xs, by simpa using RelVs.append k1 k3, .cons k2 k4⟩
theorem row_contract {f : FuncId} {fn : Func} {s : ChangeSpec} {tb : TypeId} {m : Nat} {apart fresh handsOn again b : Bool} (hl : laidOutB P = true)
    (hc : ∀ xs : List V, All2 (ShpV P m) fn.params.toList xs → Con P f xs [] (.d (.p (.bool b))) [])
    (hp : ∀ t ∈ fn.params.toList, plainT P m t = true) (hr : ∀ t ∈ fn.params.toList, P.readableRec t = true ∧ t < P.types.size)
    (hvars : s.vars = []) (hrt : fn.resultTypes = #[tb]) (hub : P.underlying tb = some .bool)
    {W : World} {args : Array Value} {ds gs : List (DataW H)} {before : List MemPlace} (hfn : s.fn H ds = { results := [.lit (.bool b)], args := ds })
    (hval : ∀ (j : Nat) t v, fn.params[j]? = some t → args[j]? = some v → Value.okWide P W .any base t v) (hW : DataW.Whole enc P fn.params.toList s.vars apart W args.toList ds gs before) (hT : TabW W (fun _ => False) (fun k => k < W.heap.size)) :
    Calls P f args W fun e W' => ∃ v, e = .returned v ∧ s.post enc P fn apart fresh handsOn again W args v W' := by
  obtain ⟨p, q, hA, -⟩ := id hW
  obtain ⟨xs, k1, k2⟩ := args_shape (base := base) hA (fun j t v e1 e2 => hval j t v (by simpa using e1) (by simpa using e2)) hp
  exact (row_calls (hc xs k2) k1 hT).mono fun e W' he => ⟨_, he.1, post_true hl hvars hrt hub hfn hr hW he.2⟩
end
end Go.Proofs.YtdlaplgofgklnaaGreat.L
namespace Go.Proofs.YtdlaplgofgklnaaGreat.L
set_option linter.unusedVariables false
set_option linter.unusedSimpArgs false
def SubL : SL → SL → Prop
  | [], _ => True
  | (r, some c) :: l, st => lk st r = some c ∧ SubL l st
  | (_, none) :: l, st => SubL l st
theorem SubL.sub : ∀ {l st : SL}, SubL l st → ∀ r c, lk l r = some c → lk st r = some c
  | [], st, _, r, c, h => by cases h
  | (r', some c') :: l, st, hs, r, c, h => by
    simp only [lk] at h
    split at h
    · rename_i e; subst e; cases h; exact hs.1
    · exact SubL.sub hs.2 r c h
  | (r', none) :: l, st, hs, r, c, h => by
    simp only [lk] at h
    split at h
    · cases h
    · exact SubL.sub (l := l) (by simpa only [SubL] using hs) r c h
def slNL (b : Nat) : SL → Prop
  | [] => True
  | (.s _, some c) :: l => c.inN (· < b) ∧ slNL b l
  | (.r i, some c) :: l => (i < b ∧ c.inN (· < b)) ∧ slNL b l
  | (_, none) :: l => slNL b l
theorem slNL.slN : ∀ {b : Nat} {l : SL}, slNL b l → slN b l
  | b, [], _, r, c, h => by cases h
  | b, (.s i, some c') :: l, hs, r, c, h => by
    simp only [lk] at h
    split at h
    · rename_i e; subst e; cases h; exact ⟨hs.1, fun _ e => by cases e⟩
    · exact slNL.slN hs.2 r c h
  | b, (.r i, some c') :: l, hs, r, c, h => by
    simp only [lk] at h
    split at h
    · rename_i e; subst e; cases h; exact ⟨hs.1.2, fun j e => by cases e; exact hs.1.1⟩
    · exact slNL.slN hs.2 r c h
  | b, (.s i, none) :: l, hs, r, c, h => by
    simp only [lk] at h
    split at h
    · cases h
    · exact slNL.slN (l := l) (by simpa [slNL] using hs) r c h
  | b, (.r i, none) :: l, hs, r, c, h => by
    simp only [lk] at h
    split at h
    · cases h
    · exact slNL.slN (l := l) (by simpa [slNL] using hs) r c h
section
variable {P : Program} {T : Nat} {st : SL} {n : Nat} {Q : Exit → SL → Nat → Prop}
theorem gh_to {n' : Nat} {st' : SL} (hs : SubL st' st) : Gh st n' fun st2 _ => st2 = st' := gh_sub hs.sub rfl
end
theorem gh_nilRow (t : Nat) (m : Md) (s : Nat) {st : SL} {n : Nat} {K : SL → Nat → Prop} (hst : lk st (.s t) = some (.v (.d (.p (.slice none 0 0)))))
    (h : Gh ((.s t, some (.v (.d (.row m s [])))) :: st) n K) : Gh st n K := by
  refine gh_trans fun Γ tm w hsat => ⟨_, n, Nat.le_refl _, h, ?_⟩
  obtain ⟨Z, B, ρ, F, hs⟩ := hsat
  obtain ⟨hlt, F1, h1⟩ := hs.take hst
  obtain ⟨F2, h2⟩ := h1.turn (v' := .d (.row m s [])) (val' := tm.getD t undef) (fun G g => by
    have e := rel_p g
    refine ⟨[], ?_, by simp, by simp⟩
    rw [e]
    exact .d (.none .nil) .nil) (fun _ => trivial)
  obtain ⟨F3, h3⟩ := h2.put hlt
  rw [setget] at h3
  have e : upd (upd (lk st) (.s t) none) (.s t) (some (.v (.d (.row m s [])))) = lk ((.s t, some (.v (.d (.row m s [])))) :: st) := by
    rw [lk_cons]
    funext x
    simp only [upd]
    split <;> rfl
  rw [e] at h3
  exact ⟨Z, B, ρ, F3, h3⟩
section
variable {P : Program} {T : Nat} {st : SL} {n : Nat} {ops : Array Oper} {os : List Oper} {K : SL → Nat → Prop}
theorem regW_guardN {dst : Option Tmp} {op : Op} {ty : TypeId} {pos : String} {af : Array Edge} {j d : Nat} {want b : Bool} (hd : dstOk T dst) (hj : (ops[j]?).bind (·.dst) = some d)
    (hs : lk st (.s d) = some (.v (.d (.p (.bool b)))))
    (h : b = want → regW P T ops ({ dst := dst, op := op, type := ty, pos := pos, after := af, guard := none } :: os) ((.s d, some (.v (.d (.p (.bool want))))) :: st) n K)
    (h2 : b = !want → regW P T ops os (putSt dst (.tup []) ((.s d, some (.v (.d (.p (.bool (!want)))))) :: st)) n K) :
    regW P T ops ({ dst := dst, op := op, type := ty, pos := pos, after := af, guard := some (j, want) } :: os) st n K := by
  simp only [regW, hj, hs]
  refine ⟨hd, fun e => ?_, h2⟩
  have := h e
  simp only [regW] at this
  exact this.2
theorem regW_yesN {dst : Option Tmp} {op : Op} {ty : TypeId} {pos : String} {af : Array Edge} {j d : Nat} {want : Bool} (hd : dstOk T dst) (hj : (ops[j]?).bind (·.dst) = some d)
    (hs : lk st (.s d) = some (.v (.d (.p (.bool want)))))
    (h : regW P T ops ({ dst := dst, op := op, type := ty, pos := pos, after := af, guard := none } :: os) ((.s d, some (.v (.d (.p (.bool want))))) :: st) n K) :
    regW P T ops ({ dst := dst, op := op, type := ty, pos := pos, after := af, guard := some (j, want) } :: os) st n K :=
  regW_guardN hd hj hs (fun _ => h) (fun e => by cases want <;> cases e)
end
theorem list_get {α : Type} {l : List α} {k : Nat} (h : k < l.length) : ∃ m, l[k]? = some m := ⟨l[k], List.getElem?_eq_getElem h⟩
theorem drop_cons {α : Type} {l : List α} {k : Nat} {m : α} (h : l[k]? = some m) : l.drop k = m :: l.drop (k + 1) := by
  obtain ⟨h1, h2⟩ := List.getElem?_eq_some_iff.1 h
  rw [List.drop_eq_getElem_cons h1, h2]
theorem drop_nil {α : Type} {l : List α} {k : Nat} (h : l.length ≤ k) : l.drop k = [] := List.drop_eq_nil_of_le h
theorem wrapS {k : Nat} (h : k < 4611686018427387904) : IntKind.i64.wrap ((k : Int) + 1) = ((k + 1 : Nat) : Int) := by
  rw [IntKind.wrap_i64]; omega
theorem gh_ret {P : Program} {rs : List ResultVar} {v : V} {objs' : List C} {st : SL} {n : Nat} (h : RetW P rs v objs' st n) : Gh st n (RetW P rs v objs') := gh_refl h
theorem retQ_ret {P : Program} {rs : List ResultVar} {v : V} {objs' : List C} {st : SL} {n : Nat} (h : Gh st n (RetW P rs v objs')) : retQ P rs v objs' .ret st n := h
theorem retQ_normal {P : Program} {rs : List ResultVar} {v : V} {objs' : List C} {st : SL} {n : Nat} (h : Gh st n (RetW P rs v objs')) : retQ P rs v objs' .normal st n := h
theorem wrapIn {x : Int} (h1 : -9223372036854775808 ≤ x) (h2 : x ≤ 9223372036854775807) : IntKind.i64.wrap x = x := by
  rw [IntKind.wrap_i64]; omega
theorem dd_get (ds : List (List D)) (i : Nat) : (dd ds)[i]? = ds[i]?.map (List.map V.d) := by simp [dd]
theorem dd_take (ds : List (List D)) (n : Nat) : (dd ds).take n = dd (ds.take n) := by simp [dd, List.map_take]
theorem dd_drop (ds : List (List D)) (n : Nat) : (dd ds).drop n = dd (ds.drop n) := by simp [dd, List.map_drop]
theorem dd_append (a b : List (List D)) : dd (a ++ b) = dd a ++ dd b := by simp [dd]
theorem dd_set (ds : List (List D)) (i : Nat) (r : List D) : (dd ds).set i (r.map V.d) = dd (ds.set i r) := by simp [dd, List.map_set]
theorem resGol_d (n : Nat) : ∀ r : List D, resV.gol (n + 1) (r.map V.d) = .ret r
  | [] => by simp [resV.gol]
  | x :: r => by
    simp only [List.map_cons, resV.gol, resV, Prog.bind, resGol_d n r]
theorem resGo_dd (n : Nat) : ∀ ds : List (List D), resV.go (n + 1) (dd ds) = .ret ds
  | [] => by simp [resV.go, dd]
  | x :: ds => by
    have := resGo_dd n ds
    simp only [dd] at this
    simp only [dd, List.map_cons, resV.go, Prog.bind, this]
    rw [resGol_d]
    rfl
theorem undd_dd : ∀ ds : List (List D), undd (dd ds) = some ds
  | [] => by simp [undd, dd]
  | x :: ds => by
    have h : ∀ r : List D, undd.unddR (r.map V.d) = some r := by
      intro r
      induction r with
      | nil => simp [undd.unddR]
      | cons y r ih => simp [undd.unddR, ih]
    have := undd_dd ds
    simp only [dd] at this
    simp [dd, undd, this, h]
theorem lendLL_of {α : Type} (f g : α → List D) (h : ∀ m, D.lendL (f m) = g m) (l : List α) : D.lendLL (l.map f) = l.map g := by
  rw [D.lendLL_map, List.map_map]
  apply List.map_congr_left
  intro x _
  have := h x
  rw [D.lendL_map] at this
  exact this
def fill {α : Type} (l : List α) (z : α) (x : Nat) : List α := l.take x ++ List.replicate (l.length - x) z
theorem rows_as {α : Type} {f : α → List D} {ok : α → Prop} : ∀ {xs : List (List D)}, (∀ x ∈ xs, ∃ m, x = f m ∧ ok m) → ∃ l : List α, xs = l.map f ∧ ∀ m ∈ l, ok m
  | [], _ => ⟨[], rfl, by simp⟩
  | x :: xs, h => by
    obtain ⟨m, h1, h2⟩ := h x (by simp)
    obtain ⟨l, h3, h4⟩ := rows_as (f := f) (ok := ok) (xs := xs) (fun y hy => h y (by simp [hy]))
    exact ⟨m :: l, by simp [h1, h3], by simpa using ⟨h2, h4⟩⟩
mutual
def V.namesOf : V → List Nat
  | .sl r _ _ _ => [r]
  | .mp r _ _ _ => [r]
  | .agg cs => V.namesOfL cs
  | _ => []
def V.namesOfL : List V → List Nat
  | [] => []
  | x :: xs => V.namesOf x ++ V.namesOfL xs
end
theorem call_lend {P : Program} {f : FuncId} {xs ys : List V} {v : V} {nm : Nat} {st : SL} {R W : List Res} {k : V → SL → List Res → List Res → Prop} (hc : Con P f ys [] v []) (hv : v.nb = true)
    (h : (argsP (fun i => ([] : List Nat).getD i 0) (V.namesOfL xs) ys xs).wp st R W fun _ st R W => (nameAll nm (v.ren fun i => ([] : List Nat).getD i 0)).wp st R W k) : (callP P nm f xs).wp st R W k := by
  simp only [callP, Prog.wp]
  refine ⟨⟨ys, [], v, [], [], V.namesOfL xs⟩, ⟨hc, List.nodup_nil, by simp, .inr ⟨hv, by simp⟩⟩, ?_⟩
  simp only [Prog.wp_bind]
  simp only [objsP, Prog.wp]
  exact h
def i64 (z : Int) : Prop := -9223372036854775808 ≤ z ∧ z ≤ 9223372036854775807
section
variable {P : Program} {m : Nat} {t : TypeId} {ds : List D}
theorem shp_slice {e : TypeId} {α : Type} {f : α → List D} {ok : α → Prop} {s : Nat} (hu : P.underlying t = some (.slice e)) (hs : P.cellsOf e = s) (hf : ∀ k ds, Shp P k e ds → ∃ m, ds = f m ∧ ok m) (h : Shp P m t ds) :
    ∃ l : List α, ds = [.row .bor s (l.map f)] ∧ l.length ≤ 9223372036854775807 ∧ ∀ v ∈ l, ok v := by
  cases m with
  | zero => cases h
  | succ m =>
    simp only [Shp, hu] at h
    obtain ⟨xs, e, hl, h⟩ := h
    obtain ⟨l, rfl, hok⟩ := rows_as (f := f) (ok := ok) (fun y hy => hf m y (h y hy))
    rw [hs] at e
    refine ⟨l, e, ?_, hok⟩
    rw [List.length_map] at hl
    exact hl
theorem shpV_one {x : V} {u : TypeDesc} (hu : P.underlying t = some u) (hn : ∀ fs, u ≠ .struct fs) (h : ShpV P m t x) : ∃ d, x = .d d ∧ Shp P m t [d] := by
  unfold ShpV at h
  rw [hu] at h
  cases u <;> first | exact h | exact absurd rfl (hn _)
theorem shpV_slice {x : V} {e : TypeId} {α : Type} {f : α → List D} {ok : α → Prop} {s : Nat} (hu : P.underlying t = some (.slice e)) (hs : P.cellsOf e = s) (hf : ∀ k ds, Shp P k e ds → ∃ m, ds = f m ∧ ok m) (h : ShpV P m t x) :
    ∃ l : List α, x = .d (.row .bor s (l.map f)) ∧ l.length ≤ 9223372036854775807 ∧ ∀ v ∈ l, ok v := by
  obtain ⟨d, rfl, h'⟩ := shpV_one hu (fun _ e => by cases e) h
  obtain ⟨l, e, h1, h2⟩ := shp_slice hu hs hf h'
  cases e
  exact ⟨l, rfl, h1, h2⟩
end
theorem renLL_dd (π : Nat → Nat) (ds : List (List D)) : V.renLL π (dd ds) = dd ds := by
  rw [V.renLL_map]
  simp only [dd, List.map_map]
  apply List.map_congr_left
  intro r _
  rw [Function.comp_apply, List.map_map]
  apply List.map_congr_left
  intro x _
  rfl
theorem call_obj {P : Program} {f : FuncId} {xs ys : List V} {objs objs' : List C} {v : V} {nm : Nat} {st : SL} {R W : List Res} {k : V → SL → List Res → List Res → Prop} (pi : List Nat) (hc : Con P f ys objs v objs')
    (hnd : pi.Nodup) (hnb : (V.namesOfL xs).filter (fun r => !pi.contains r) = [] ∨ (v.nb = true ∧ ∀ o ∈ objs', o.nb = true))
    (h : (argsP (fun i => pi.getD i 0) ((V.namesOfL xs).filter fun r => !pi.contains r) ys xs).wp st R W fun _ st R W => (objsP (fun i => pi.getD i 0) pi objs objs').wp st R W fun _ st R W => (nameAll nm (v.ren fun i => pi.getD i 0)).wp st R W k) : (callP P nm f xs).wp st R W k := by
  simp only [callP, Prog.wp]
  refine ⟨⟨ys, objs, v, objs', pi, (V.namesOfL xs).filter fun r => !pi.contains r⟩, ⟨hc, hnd, ?_, hnb⟩, ?_⟩
  · intro r hr hn
    have := (List.mem_filter.1 hn).2
    simp at this
    exact this hr
  simp only [Prog.wp_bind]
  exact h
theorem nat_lt_zero (n : Nat) : ((n : Int) < 0) = False := by simp
theorem nat_one : ((1 : Nat) : Int) = 1 := rfl
theorem nat_zero : ((0 : Nat) : Int) = 0 := rfl
theorem nbLL_map {α : Type} (f : α → List D) (h : ∀ m, D.nbL (f m) = true) : ∀ l : List α, D.nbLL (l.map f) = true
  | [] => rfl
  | m :: l => by simp only [List.map_cons, D.nbLL, h m, nbLL_map f h l, Bool.and_self]
mutual
def lendA (st : SL) : V → Option V
  | .d x => some (.d x)
  | .sl r s i n => match lk st (.r r) with
    | some (.o s' rs) => if s = s' ∧ i + n ≤ rs.length then (undd ((rs.drop i).take n)).map fun ds => .d (.row .bor s (D.lendLL ds)) else none
    | _ => none
  | .mp r s i j => match lk st (.r r) with
    | some (.o s' rs) => if s = s' then (rs[i]?).bind fun row => if j ≤ row.length then (undd.unddR (row.drop j)).map fun ds => .d (.ptr .bor (D.lendL ds)) else none else none
    | _ => none
  | .agg cs => (lendAL st cs).map .agg
  | _ => none
def lendAL (st : SL) : List V → Option (List V)
  | [] => some []
  | x :: xs => (lendA st x).bind fun y => (lendAL st xs).map (y :: ·)
end
mutual
theorem argP_auto {π : Nat → Nat} {L : List Nat} {st : SL} {W : List Res} : ∀ {x y : V} {R : List Res} {k : Unit → SL → List Res → List Res → Prop}, lendA st x = some y → (∀ r ∈ x.namesOf, r ∈ L) →
    k () st (x.namesOf.foldl (fun R r => .r r :: R) R) W → (argP π L y x).wp st R W k
  | .d x, y, R, k, h, hL, hk => by
    simp only [lendA, Option.some.injEq] at h
    subst h
    simp only [argP, Prog.wp, true_or, true_and]
    exact hk
  | .sl r s i n, y, R, k, h, hL, hk => by
    simp only [lendA] at h
    split at h
    · rename_i s' rs hst
      split at h
      · rename_i hc
        simp only [Option.map_eq_some_iff] at h
        obtain ⟨ds, hds, rfl⟩ := h
        simp only [argP, Prog.wp, hst, hds, Prog.ofO, Prog.bind]
        exact ⟨hL r (by simp [V.namesOf]), hc, trivial, hk⟩
      · cases h
    · cases h
  | .mp r s i j, y, R, k, h, hL, hk => by
    simp only [lendA] at h
    split at h
    · rename_i s' rs hst
      split at h
      · rename_i hc
        simp only [Option.bind_eq_some_iff] at h
        obtain ⟨row, hrow, h⟩ := h
        split at h
        · rename_i hj
          simp only [Option.map_eq_some_iff] at h
          obtain ⟨ds, hds, rfl⟩ := h
          simp only [argP, Prog.wp, hst, hds, hrow, Prog.ofO, Prog.bind]
          exact ⟨hL r (by simp [V.namesOf]), hc, hj, trivial, hk⟩
        · cases h
      · cases h
    · cases h
  | .agg cs, y, R, k, h, hL, hk => by
    simp only [lendA, Option.map_eq_some_iff] at h
    obtain ⟨ys, hys, rfl⟩ := h
    simp only [argP]
    exact argsP_auto hys (by simpa [V.namesOf] using hL) (by simpa [V.namesOf] using hk)
  | .clo f cs, y, R, k, h, hL, hk => by simp [lendA] at h
  | .tup cs, y, R, k, h, hL, hk => by simp [lendA] at h
  | .arr s xs, y, R, k, h, hL, hk => by simp [lendA] at h
theorem argsP_auto {π : Nat → Nat} {L : List Nat} {st : SL} {W : List Res} : ∀ {xs ys : List V} {R : List Res} {k : Unit → SL → List Res → List Res → Prop}, lendAL st xs = some ys → (∀ r ∈ V.namesOfL xs, r ∈ L) →
    k () st ((V.namesOfL xs).foldl (fun R r => .r r :: R) R) W → (argsP π L ys xs).wp st R W k
  | [], ys, R, k, h, hL, hk => by
    simp only [lendAL, Option.some.injEq] at h
    subst h
    simp only [argsP, Prog.wp]
    exact hk
  | x :: xs, ys, R, k, h, hL, hk => by
    simp only [lendAL, Option.bind_eq_some_iff, Option.map_eq_some_iff] at h
    obtain ⟨y, hy, ys', hys, rfl⟩ := h
    simp only [argsP, Prog.wp_bind]
    refine argP_auto hy (fun r hr => hL r (by simp [V.namesOfL, hr])) ?_
    refine argsP_auto hys (fun r hr => hL r (by simp [V.namesOfL, hr])) ?_
    simpa only [V.namesOfL, List.foldl_append] using hk
end
theorem call_auto {P : Program} {f : FuncId} {xs ys : List V} {v : V} {nm : Nat} {st : SL} {R W : List Res} {k : V → SL → List Res → List Res → Prop} (hy : lendAL st xs = some ys) (hc : Con P f ys [] v []) (hv : v.nb = true)
    (h : (nameAll nm (v.ren fun i => ([] : List Nat).getD i 0)).wp st ((V.namesOfL xs).foldl (fun R r => .r r :: R) R) W k) : (callP P nm f xs).wp st R W k :=
  call_lend hc hv (argsP_auto hy (fun _ h => h) h)
theorem wp_ite {α : Type} {c : Prop} [Decidable c] {A B : Prog α} {st : SL} {R W : List Res} {k : α → SL → List Res → List Res → Prop} (h1 : c → A.wp st R W k) (h2 : ¬ c → B.wp st R W k) : (if c then A else B).wp st R W k := by
  split
  · exact h1 ‹_›
  · exact h2 ‹_›
theorem SatP.lendHead {Γ : Ctx} {N : Nat → Prop} {st : St} {x : D} {ps : List V} {vals : List Value} {tm : Array Value} {w : World} (h : SatP Γ N st (.d x :: ps) vals tm w) : SatP Γ N st (.d x.lend :: ps) vals tm w := by
  obtain ⟨Z, B, ρ, F, hs⟩ := h
  obtain ⟨⟨Fp, hFp, hr⟩, hin⟩ := hs.pend
  obtain ⟨v, vs, Fx, G, rfl, rfl, h1, h2⟩ := hr.cons_split
  have hFx : ∀ b ∈ Fx, b ∈ F none := fun b hb => by rw [hFp]; simp [hb]
  have hG : ∀ b ∈ G, b ∈ F none := fun b hb => by rw [hFp]; simp [hb]
  have hnd := hs.nodup none
  rw [hFp, List.append_nil, List.nodup_append] at hnd
  have hnG : ∀ b ∈ G, b ∉ Fx := fun b hb hb' => hnd.2.2 b hb' b hb rfl
  refine ⟨Z, fun b => B b ∨ b ∈ Fx, ρ, fun y => match y with | none => G | some r => F (some r), ?_⟩
  refine hs.update (fun y => y = none) (Grow.refl _) (fun _ _ _ => rfl) (fun _ _ => rfl) ?_ (fun s _ hlt => ⟨hlt, rfl⟩) (fun hh => absurd rfl hh) (fun _ h => h) (fun _ _ => rfl) (fun _ h => h) (fun _ h => .inl h) (fun b hb => .inl (hs.zB b hb)) ?_ (fun _ h => .inl h) (fun s c hh => by cases hh) (fun r c hh => by cases hh) ?_ (fun y hh => by cases hh) ?_ ?_ ?_ ?_
  · intro y hy
    cases y with
    | none => exact absurd rfl hy
    | some r => rfl
  · rintro b (hb | hb)
    · exact .inl hb
    · exact .inr ⟨(hs.own none b (hFx b hb)).2.1, .inl ⟨none, rfl, hFx b hb⟩⟩
  · intro _
    refine ⟨⟨G, by simp, ?_⟩, hin⟩
    have e1 : RelVs Z (fun b => B b ∨ b ∈ Fx) w ρ ps vs G := h2.mono (N := N) hin.2 (fun _ _ => rfl) (fun _ _ => rfl) (fun _ _ => rfl) (fun _ _ => rfl) (fun _ h => h) (fun _ h => .inl h) (fun _ _ h => h)
    obtain ⟨Fd, e3, hd⟩ : ∃ Fd, Fx = Fd ∧ RelDs Z B w [x] [v] Fd := by
      cases h1 with
      | d h3 h4 => cases h4; exact ⟨_, by simp, h3⟩
    have e2 := hd.lend (B2 := fun b => B b ∨ b ∈ Fx) (fun b hb => .inr (by rw [e3]; exact hb)) (fun b hb => .inl hb) (fun b hb => .inl (hs.zB b hb))
    exact .d e2 e1
  · rintro y rfl
    exact hnd.2.1
  · rintro y z rfl rfl hne
    exact absurd rfl hne
  · rintro y rfl b hb
    exact .inl ⟨none, rfl, hG b hb⟩
  · rintro y rfl b hb
    refine ⟨(hs.own none b (hG b hb)).2.1, ?_⟩
    rintro (h | h)
    · exact (hs.own none b (hG b hb)).1 h
    · exact hnG b hb h
theorem con_own {P : Program} {f : FuncId} {x : D} {rest : List V} {v : V} {objs' : List C} (h : Con P f (.d x.lend :: rest) [] v objs') : Con P f (.d x :: rest) [] v objs' :=
  ⟨h.enters, ⟨trivial, h.inA.2⟩, h.inO, h.inV, h.inO', h.len, fun Γ vals w hk hsat => h.call Γ vals w hk hsat.lendHead⟩
section
variable {P : Program} {T : Nat} {st : SL} {n : Nat} {Q : Exit → SL → Nat → Prop}
structure sw (P : Program) (T : Nat) (c : Code) (st : SL) (n : Nat) (Q : Exit → SL → Nat → Prop) : Prop where
  run : AWp P T c st n Q
theorem sw_of_aw {c : Code} (h : aw P T c st n Q) : sw P T c st n Q := ⟨aw_sound c st n Q h⟩
theorem sw_gh {c : Code} (h : Gh st n fun st' n' => sw P T c st' n' Q) : sw P T c st n Q := by
  refine ⟨fun Γ a w hs hd hsat => ?_⟩
  obtain ⟨st', n', hn, hk, hsat'⟩ := h Γ a.tmps w hsat
  refine wp_mono (hk.run Γ a w hs hd hsat') ?_
  rintro e a2 w2 ⟨k1, k2, st2, n2, k3, k4, k5⟩
  exact ⟨k1, k2, st2, n2, by omega, k4, k5⟩
theorem sw_seq {a b : Code} (h : sw P T a st n (seqQ Q fun st n => sw P T b st n Q)) : sw P T (.seq a b) st n Q := by
  refine ⟨fun Γ a w hs hd hsat => ?_⟩
  refine wp_seq (wp_mono (h.run Γ a w hs hd hsat) ?_)
  rintro e a' w' ⟨h1, h2, st', n', h3, h4, h5⟩
  cases e with
  | normal =>
    refine wp_mono (h4.run Γ a' w' h1 h2 h5) ?_
    rintro e a2 w2 ⟨k1, k2, st2, n2, k3, k4, k5⟩
    exact ⟨k1, k2, st2, n2, by omega, k4, k5⟩
  | exit id => exact ⟨h1, h2, st', n', h3, h4, h5⟩
  | goto l => exact ⟨h1, h2, st', n', h3, h4, h5⟩
  | ret => exact ⟨h1, h2, st', n', h3, h4, h5⟩
  | panic ch => exact ⟨h1, h2, st', n', h3, h4, h5⟩
  | outgrown => exact ⟨h1, h2, st', n', h3, h4, h5⟩
theorem sat_k {Γ : Ctx} {st : SL} {tm : Array Value} {w : World} (h : Sat Γ (· < n) (lk st) tm w) : Γ.k ≤ n := by
  obtain ⟨Z, B, ρ, F, hh⟩ := h
  rcases Nat.lt_or_ge n Γ.k with hlt | hge
  · exact absurd (hh.kN n hlt) (Nat.lt_irrefl n)
  · exact hge
def MeetA {ι : Type} (n N0 : Nat) (S : ι → SL) (J : ι → Prop) : SL → Nat → Prop := fun st' n' => n ≤ N0 ∧ ∃ y, J y ∧ st' = S y ∧ slNL N0 (S y)
theorem sw_join {a b : Code} {ι : Type} (N0 : Nat) (S : ι → SL) (J : ι → Prop)
    (h : sw P T a st n (seqQ Q fun st1 n1 => Gh st1 n1 (MeetA n N0 S J)))
    (rest : ∀ x, J x → sw P T b (S x) N0 Q) : sw P T (.seq a b) st n Q := by
  refine ⟨fun Γ a w hs hd hsat => ?_⟩
  have hk := sat_k hsat
  refine wp_seq (wp_mono (h.run Γ a w hs hd hsat) ?_)
  rintro e a' w' ⟨h1, h2, st', n', h3, h4, h5⟩
  cases e with
  | normal =>
    obtain ⟨st2, n2, l2, ⟨hN, y, hy, rfl, hsl⟩, s2⟩ := h4 Γ a'.tmps w' h5
    refine wp_mono ((rest y hy).run Γ a' w' h1 h2 (sat_shrink s2 (Nat.le_trans hk hN) hsl.slN)) ?_
    rintro e a2 w2 ⟨k1, k2, st2, n2, k3, k4, k5⟩
    exact ⟨k1, k2, st2, n2, by omega, k4, k5⟩
  | exit id => exact ⟨h1, h2, st', n', h3, h4, h5⟩
  | goto l => exact ⟨h1, h2, st', n', h3, h4, h5⟩
  | ret => exact ⟨h1, h2, st', n', h3, h4, h5⟩
  | panic ch => exact ⟨h1, h2, st', n', h3, h4, h5⟩
  | outgrown => exact ⟨h1, h2, st', n', h3, h4, h5⟩
theorem meet_to {ι : Type} {S : ι → SL} {J : ι → Prop} {n' N0 : Nat} (y : ι) (hn : n ≤ N0) (hN : slNL N0 (S y)) (hy : J y) (hs : SubL (S y) st) : Gh st n' (MeetA n N0 S J) :=
  gh_sub hs.sub ⟨hn, y, hy, rfl, hN⟩
theorem sw_block {i : Nat} {c : Code} (h : sw P T c st n (blockQ Q i)) : sw P T (.block i c) st n Q := by
  refine ⟨fun Γ a w hs hd hsat => ?_⟩
  refine wp_block (wp_mono (h.run Γ a w hs hd hsat) ?_)
  rintro e a' w' ⟨h1, h2, st', n', h3, h4, h5⟩
  cases e with
  | exit id' =>
    simp only [Exit.inBlock]
    simp only [blockQ] at h4
    split
    · rename_i e
      rw [if_pos e] at h4
      exact ⟨h1, h2, st', n', h3, h4, h5⟩
    · rename_i e
      rw [if_neg e] at h4
      exact ⟨h1, h2, st', n', h3, h4, h5⟩
  | normal => exact ⟨h1, h2, st', n', h3, h4, h5⟩
  | goto l => exact ⟨h1, h2, st', n', h3, h4, h5⟩
  | ret => exact ⟨h1, h2, st', n', h3, h4, h5⟩
  | panic ch => exact ⟨h1, h2, st', n', h3, h4, h5⟩
  | outgrown => exact ⟨h1, h2, st', n', h3, h4, h5⟩
theorem sw_cond {t : Nat} {x y : Code} {b : Bool} (hs : lk st (.s t) = some (.v (.d (.p (.bool b)))))
    (ht : b = true → sw P T x ((.s t, some (.v (.d (.p (.bool true))))) :: st) n Q) (hf : b = false → sw P T y ((.s t, some (.v (.d (.p (.bool false))))) :: st) n Q) : sw P T (.cond (.tmp t) x y) st n Q := by
  refine ⟨fun Γ a w hsz hd hsat => ?_⟩
  obtain ⟨hlt, hval⟩ := bool_of_slot hsat hs
  refine wp_cond (t := b) (by simpa [Act.eval] using hval) ?_
  cases b with
  | true => exact (ht rfl).run Γ a w hsz hd (by rw [lk_same hs]; exact hsat)
  | false => exact (hf rfl).run Γ a w hsz hd (by rw [lk_same hs]; exact hsat)
theorem sw_skip (h : Q .normal st n) : sw P T .skip st n Q := sw_of_aw h
theorem sw_ret (h : Q .ret st n) : sw P T .ret st n Q := sw_of_aw h
theorem sw_exit {i : Nat} (h : Q (.exit i) st n) : sw P T (.exit i) st n Q := sw_of_aw h
theorem sw_reg {i : Nat} {l : List Oper} (h : regW P T l.toArray l st n (Q .normal)) : sw P T (.region i l.toArray false) st n Q := sw_of_aw (aw_reg h)
theorem sw_draw {i : Nat} {l : List Oper} (hm : P.follows .mixedOrders = true) (h : regD P T l.toArray l st n [] fun st' n' acc => okDraw l.toArray acc = true ∧ Q .normal st' n') : sw P T (.region i l.toArray true) st n Q :=
  sw_of_aw (aw_draw hm h)
def NextS {ι : Type} (n N0 : Nat) (S : ι → SL) (μ : ι → Nat) (J : ι → Prop) (mx : Nat) : SL → Nat → Prop := fun st' _ => n ≤ N0 ∧ ∃ y, J y ∧ μ y < mx ∧ st' = S y ∧ slNL N0 (S y)
theorem sw_loop {c : Code} {ι : Type} (N0 : Nat) (hn : n ≤ N0) (S : ι → SL) (μ : ι → Nat) (J : ι → Prop) (x0 : ι) (hN : slNL N0 (S x0)) (hx0 : J x0) (h0 : SubL (S x0) st)
    (round : ∀ x, J x → sw P T c (S x) N0 (seqQ Q fun st1 n1 => Gh st1 n1 (NextS n N0 S μ J (μ x)))) : sw P T (.loop c) st n Q := by
  refine ⟨fun Γ a w hs hd hsat => ?_⟩
  have hk := sat_k hsat
  obtain ⟨st00, n00, l00, rfl, s00⟩ := gh_to (n' := n) h0 Γ a.tmps w hsat
  have key : ∀ m x a w, μ x = m → J x → a.tmps.size = T → a.defers = [] → Sat Γ (· < N0) (lk (S x)) a.tmps w →
      ∀ (b : Frame) (k : List Item) (cs : List Frame), ∃ e a' w', (a'.tmps.size = T ∧ a'.defers = [] ∧ ∃ st' n', n ≤ n' ∧ Q e st' n' ∧ Sat Γ (· < n') (lk st') a'.tmps w') ∧ Arrives P (lone (b.at a (.code c :: .inLoop c :: k)) cs w) b k cs e a' w' := by
    intro m
    induction m using Nat.strongRecOn with
    | _ m ih =>
      intro x a w hm hx hs hd hsat b k cs
      obtain ⟨e, a₁, w₁, ⟨k1, k2, st', n', k3, k4, k5⟩, harr⟩ := (round x hx).run Γ a w hs hd hsat b (.inLoop c :: k) cs
      cases e with
      | normal =>
        obtain ⟨st2, n2, l2, ⟨hN2, y, hy, hlt, rfl, hsl⟩, s2⟩ := k4 Γ a₁.tmps w₁ k5
        obtain ⟨e₂, a₂, w₂, hq₂, harr₂⟩ := ih (μ y) (hm ▸ hlt) y a₁ w₁ rfl hy k1 k2 (sat_shrink s2 (Nat.le_trans hk hN2) hsl.slN) b k cs
        exact ⟨e₂, a₂, w₂, hq₂, .of_steps (Steps.trans harr (.one step_inLoop)) harr₂⟩
      | exit id => exact ⟨_, a₁, w₁, ⟨k1, k2, st', n', by omega, k4, k5⟩, .pass (x := .inLoop c) rfl (fun _ _ => .inl (by simp)) harr⟩
      | goto l => exact ⟨_, a₁, w₁, ⟨k1, k2, st', n', by omega, k4, k5⟩, .pass (x := .inLoop c) rfl (fun _ _ => .inl (by simp)) harr⟩
      | ret => exact ⟨_, a₁, w₁, ⟨k1, k2, st', n', by omega, k4, k5⟩, .pass (x := .inLoop c) rfl (fun _ _ => .inl (by simp)) harr⟩
      | panic ch => exact ⟨_, a₁, w₁, ⟨k1, k2, st', n', by omega, k4, k5⟩, .pass (x := .inLoop c) rfl (fun _ _ => .inl (by simp)) harr⟩
      | outgrown => exact ⟨_, a₁, w₁, ⟨k1, k2, st', n', by omega, k4, k5⟩, .pass (x := .inLoop c) rfl (fun _ _ => .inl (by simp)) harr⟩
  intro b k cs
  obtain ⟨e, a', w', hq, harr⟩ := key (μ x0) x0 a w rfl hx0 hs hd (sat_shrink s00 (Nat.le_trans hk hn) hN.slN) b k cs
  exact ⟨e, a', w', hq, .of_steps (.one step_loop) harr⟩
theorem nexts_to {ι : Type} {S : ι → SL} {μ : ι → Nat} {J : ι → Prop} {mx n' N0 : Nat} (y : ι) (hn : n ≤ N0) (hN : slNL N0 (S y)) (hlt : μ y < mx) (hy : J y) (hs : SubL (S y) st) : Gh st n' (NextS n N0 S μ J mx) :=
  gh_sub hs.sub ⟨hn, y, hy, hlt, rfl, hN⟩
theorem gh_sw {c : Code} (h : sw P T c st n Q) : Gh st n fun st' n' => sw P T c st' n' Q := gh_refl h
theorem con_of_sw {f : FuncId} {fn : Func} {c : Code} {args : List V} {objs objs' : List C} {v : V} (hf : P.funcs[f]? = some fn) (hb : fn.body = some c)
    (henter : ∀ (a : Array Value) (w : World), (callFunc f a).run P w = .ok (.enter f a) w) (hT : args.length ≤ fn.ntmps)
    (inA : V.inNs (· < objs.length) args) (inO : ∀ c ∈ objs, c.inN (· < objs.length)) (inV : v.inN (· < objs.length)) (inO' : ∀ c ∈ objs', c.inN (· < objs.length)) (len : objs'.length = objs.length)
    (h : sw P fn.ntmps c (entryS args 0 (entryO objs 0)) objs.length (retQ P fn.results.toList v objs')) : Con P f args objs v objs' := by
  refine ⟨henter, inA, inO, inV, inO', len, ?_⟩
  rintro Γ vals w hk ⟨Z, B, ρ, F, hs⟩
  refine calls_of_wp hf hb ?_
  have hlen : vals.length = args.length := hs.lenPend.symm
  have hs1 : SatF Γ Z B ρ F (· < objs.length) (lk (entryO objs 0)) args vals [] (vals.toArray ++ Array.replicate (fn.ntmps - vals.toArray.size) undef) w := by
    rw [lk_entryO']
    exact hs.tms (fun _ => rfl)
  obtain ⟨F2, hs2⟩ := entry_sound args vals 0 (entryO objs 0) F hs1 (by
    intro j u hj
    have hlt : j < vals.length := (List.getElem?_eq_some_iff.1 hj).1
    rw [Nat.zero_add, Array.getElem?_append_left (by simpa using hlt)]
    simpa using hj)
  have := h.run Γ { tmps := vals.toArray ++ Array.replicate (fn.ntmps - vals.toArray.size) undef, defers := [] } w (by simp; omega) rfl ⟨Z, B, ρ, F2, hs2⟩
  refine wp_mono this ?_
  rintro e a' w' ⟨h1, h2, st', n', h3, h4, h5⟩
  have fin : Gh st' n' (RetW P fn.results.toList v objs') → a'.defers = [] ∧ ∃ val, (results fn a'.tmps).run P w' = .ok val w' ∧ ∃ val' N, Ending.returned val = .returned val' ∧ SatP Γ N (stO objs') [v] [val'] #[] w' := by
    intro hg
    obtain ⟨st2, n2, k1, k2, k3⟩ := hg Γ a'.tmps w' h5
    obtain ⟨val, n3, k4, k5⟩ := ret_sound (P := P) k2 k3
    obtain ⟨Z, B, ρ, F, k5⟩ := k5
    exact ⟨h2, val, k4, val, (· < n3), rfl, Z, B, ρ, F, k5.tms (fun _ => rfl)⟩
  cases e with
  | normal => exact fin h4
  | ret => exact fin h4
  | exit id => exact h4.elim
  | goto l => exact h4.elim
  | panic ch => exact h4.elim
  | outgrown => exact h4.elim
end
def idx {α : Type} (l : List α) (i : Int) : Option α := if 0 ≤ i ∧ i < (l.length : Int) then l[i.toNat]? else none
theorem idx_some {α β : Type} {l : List α} {i : Int} {F : α → Option β} {r : β} (h : (idx l i).bind F = some r) : ∃ m, 0 ≤ i ∧ i < (l.length : Int) ∧ l[i.toNat]? = some m ∧ F m = some r := by
  unfold idx at h
  split at h
  · rename_i hc
    obtain ⟨m, hm, hF⟩ := Option.bind_eq_some_iff.1 h
    exact ⟨m, hc.1, hc.2, hm, hF⟩
  · cases h
def gd {β : Type} (p : Prop) [Decidable p] (x : Option β) : Option β := if p then x else none
theorem gd_some {β : Type} {p : Prop} [Decidable p] {x : Option β} {r : β} (h : gd p x = some r) : p ∧ x = some r := by
  unfold gd at h
  split at h
  · exact ⟨‹_›, h⟩
  · cases h
theorem bind_some {α β : Type} {x : Option α} {F : α → Option β} {r : β} (h : x.bind F = some r) : ∃ m, x = some m ∧ F m = some r := Option.bind_eq_some_iff.1 h
def Rw {α : Type} (f : α → List D) (l : List α) : List (List D) := l.map f
section
variable {α : Type} {f : α → List D}
theorem Rw_length (l : List α) : (Rw f l).length = l.length := by simp [Rw]
theorem Rw_get (l : List α) (i : Nat) : (Rw f l)[i]? = (l[i]?).map f := by simp [Rw]
theorem Rw_take (l : List α) (n : Nat) : (Rw f l).take n = Rw f (l.take n) := by simp [Rw, List.map_take]
theorem Rw_drop (l : List α) (n : Nat) : (Rw f l).drop n = Rw f (l.drop n) := by simp [Rw, List.map_drop]
theorem Rw_append (l m : List α) : Rw f l ++ Rw f m = Rw f (l ++ m) := by simp [Rw]
theorem Rw_lend {g : α → List D} (h : ∀ x, D.lendL (f x) = g x) (l : List α) : D.lendLL (Rw f l) = Rw g l := lendLL_of f g h l
theorem Rw_nb (h : ∀ x, D.nbL (f x) = true) (l : List α) : D.nbLL (Rw f l) = true := nbLL_map f h l
theorem Rw_set (l : List α) (i : Nat) (x : α) : (dd (Rw f l)).set i ((f x).map V.d) = dd (Rw f (l.set i x)) := by
  unfold Rw; rw [List.map_set, ← dd_set]
theorem Rw_Dset (l : List α) (i : Nat) (x : α) : (Rw f l).set i (f x) = Rw f (l.set i x) := by
  unfold Rw; rw [List.map_set]
theorem Rw_rep (n : Nat) (x : α) : List.replicate n (f x) = Rw f (List.replicate n x) := by simp [Rw]
end
theorem Rw_plain {α : Type} {f : α → List D} (h : ∀ x, ∀ d ∈ f x, d.lin = false) (l : List α) : D.plainRows (Rw f l) = True := by
  refine eq_true ?_
  intro r hr d hd
  obtain ⟨x, _, rfl⟩ := List.mem_map.1 hr
  exact h x d hd
def cI (k : IntKind) (z : Int) : List D := [.p (.int k z)]
def cB (z : Bool) : List D := [.p (.bool z)]
def cS (z : ByteArray) : List D := [.p (.string z)]
def cL {α : Type} (m : Md) (s : Nat) (f : α → List D) (l : List α) : List D := [.row m s (Rw f l)]
theorem cI_lend (k : IntKind) (l : List Int) : D.lendLL (Rw (cI k) l) = Rw (cI k) l := Rw_lend (fun _ => rfl) l
theorem cB_lend (l : List Bool) : D.lendLL (Rw cB l) = Rw cB l := Rw_lend (fun _ => rfl) l
theorem cS_lend (l : List ByteArray) : D.lendLL (Rw cS l) = Rw cS l := Rw_lend (fun _ => rfl) l
theorem cI_nb (k : IntKind) (l : List Int) : D.nbLL (Rw (cI k) l) = true := Rw_nb (fun _ => rfl) l
theorem cB_nb (l : List Bool) : D.nbLL (Rw cB l) = true := Rw_nb (fun _ => rfl) l
theorem cS_nb (l : List ByteArray) : D.nbLL (Rw cS l) = true := Rw_nb (fun _ => rfl) l
theorem cI_plain (k : IntKind) (l : List Int) : D.plainRows (Rw (cI k) l) = True := Rw_plain (fun x => by simp [cI, D.lin]) l
theorem cB_plain (l : List Bool) : D.plainRows (Rw cB l) = True := Rw_plain (fun x => by simp [cB, D.lin]) l
theorem cS_plain (l : List ByteArray) : D.plainRows (Rw cS l) = True := Rw_plain (fun x => by simp [cS, D.lin]) l
theorem cI_set (k : IntKind) (l : List Int) (i : Nat) (x : Int) : (dd (Rw (cI k) l)).set i [V.d (D.p (.int k x))] = dd (Rw (cI k) (l.set i x)) := Rw_set l i x
theorem cB_set (l : List Bool) (i : Nat) (x : Bool) : (dd (Rw cB l)).set i [V.d (D.p (.bool x))] = dd (Rw cB (l.set i x)) := Rw_set l i x
theorem cS_set (l : List ByteArray) (i : Nat) (x : ByteArray) : (dd (Rw cS l)).set i [V.d (D.p (.string x))] = dd (Rw cS (l.set i x)) := Rw_set l i x
theorem cI_rep (k : IntKind) (n : Nat) (x : Int) : List.replicate n [D.p (.int k x)] = Rw (cI k) (List.replicate n x) := Rw_rep (f := cI k) n x
theorem cB_rep (n : Nat) (x : Bool) : List.replicate n [D.p (.bool x)] = Rw cB (List.replicate n x) := Rw_rep (f := cB) n x
theorem cS_rep (n : Nat) (x : ByteArray) : List.replicate n [D.p (.string x)] = Rw cS (List.replicate n x) := Rw_rep (f := cS) n x
theorem cI_one (k : IntKind) (x : Int) : [[D.p (.int k x)]] = Rw (cI k) [x] := rfl
theorem cB_one (x : Bool) : [[D.p (.bool x)]] = Rw cB [x] := rfl
theorem cS_one (x : ByteArray) : [[D.p (.string x)]] = Rw cS [x] := rfl
theorem cI_cons (k : IntKind) (x : Int) (l : List Int) : [D.p (.int k x)] :: Rw (cI k) l = Rw (cI k) (x :: l) := rfl
theorem cB_cons (x : Bool) (l : List Bool) : [D.p (.bool x)] :: Rw cB l = Rw cB (x :: l) := rfl
theorem cS_cons (x : ByteArray) (l : List ByteArray) : [D.p (.string x)] :: Rw cS l = Rw cS (x :: l) := rfl
theorem cI_done (k : IntKind) (x : Int) : [[V.d (D.p (.int k x))]] = dd (Rw (cI k) [x]) := rfl
theorem cB_done (x : Bool) : [[V.d (D.p (.bool x))]] = dd (Rw cB [x]) := rfl
theorem cS_done (x : ByteArray) : [[V.d (D.p (.string x))]] = dd (Rw cS [x]) := rfl
theorem cI_dcons (k : IntKind) (x : Int) (l : List Int) : [V.d (D.p (.int k x))] :: dd (Rw (cI k) l) = dd (Rw (cI k) (x :: l)) := rfl
theorem cB_dcons (x : Bool) (l : List Bool) : [V.d (D.p (.bool x))] :: dd (Rw cB l) = dd (Rw cB (x :: l)) := rfl
theorem cS_dcons (x : ByteArray) (l : List ByteArray) : [V.d (D.p (.string x))] :: dd (Rw cS l) = dd (Rw cS (x :: l)) := rfl
def iand (k : IntKind) (x y : Int) : Int := k.wrap (BitVec.ofInt k.bits x &&& BitVec.ofInt k.bits y).toNat
def ior (k : IntKind) (x y : Int) : Int := k.wrap (BitVec.ofInt k.bits x ||| BitVec.ofInt k.bits y).toNat
def ixor (k : IntKind) (x y : Int) : Int := k.wrap (BitVec.ofInt k.bits x ^^^ BitVec.ofInt k.bits y).toNat
def iandn (k : IntKind) (x y : Int) : Int := k.wrap (BitVec.ofInt k.bits x &&& ~~~ BitVec.ofInt k.bits y).toNat
def inot (k : IntKind) (n : Int) : Int := k.wrap (BitVec.ofInt k.bits (if k.signed then -1 else k.max) ^^^ BitVec.ofInt k.bits n).toNat
def iquo (k : IntKind) (x y : Int) : Int := k.wrap (x.tdiv y)
def ishl (k : IntKind) (x y : Int) : Int := k.wrap (x * 2 ^ (min y.toNat k.bits))
def ishr (k : IntKind) (x y : Int) : Int := x.fdiv (2 ^ (min y.toNat k.bits))
theorem intBin_add (k : IntKind) (x y : Int) : intBin .add k x y = some (.int k (k.wrap (x + y))) := rfl
theorem intBin_sub (k : IntKind) (x y : Int) : intBin .sub k x y = some (.int k (k.wrap (x - y))) := rfl
theorem intBin_mul (k : IntKind) (x y : Int) : intBin .mul k x y = some (.int k (k.wrap (x * y))) := rfl
theorem intBin_and (k : IntKind) (x y : Int) : intBin .and k x y = some (.int k (iand k x y)) := rfl
theorem intBin_or (k : IntKind) (x y : Int) : intBin .or k x y = some (.int k (ior k x y)) := rfl
theorem intBin_xor (k : IntKind) (x y : Int) : intBin .xor k x y = some (.int k (ixor k x y)) := rfl
theorem intBin_andNot (k : IntKind) (x y : Int) : intBin .andNot k x y = some (.int k (iandn k x y)) := rfl
theorem intBin_eql (k : IntKind) (x y : Int) : intBin .eql k x y = some (.bool (x == y)) := rfl
theorem intBin_neq (k : IntKind) (x y : Int) : intBin .neq k x y = some (.bool (x != y)) := rfl
theorem intBin_lss (k : IntKind) (x y : Int) : intBin .lss k x y = some (.bool (decide (x < y))) := rfl
theorem intBin_leq (k : IntKind) (x y : Int) : intBin .leq k x y = some (.bool (decide (x ≤ y))) := rfl
theorem intBin_gtr (k : IntKind) (x y : Int) : intBin .gtr k x y = some (.bool (decide (x > y))) := rfl
theorem intBin_geq (k : IntKind) (x y : Int) : intBin .geq k x y = some (.bool (decide (x ≥ y))) := rfl
theorem intBin_quo (k : IntKind) (x y : Int) (h : ¬ y = 0) : intBin .quo k x y = some (.int k (iquo k x y)) := by simp [intBin, h, iquo]
theorem intBin_rem (k : IntKind) (x y : Int) (h : ¬ y = 0) : intBin .rem k x y = some (.int k (x.tmod y)) := by simp [intBin, h]
theorem shiftBin_shl (k : IntKind) (x y : Int) (h : ¬ y < 0) : shiftBin .shl k x y = some (.int k (ishl k x y)) := by simp [shiftBin, h, ishl]
theorem shiftBin_shr (k : IntKind) (x y : Int) (h : ¬ y < 0) : shiftBin .shr k x y = some (.int k (ishr k x y)) := by simp [shiftBin, h, ishr]
def sidx (s : ByteArray) (i : Int) : Option UInt8 := if 0 ≤ i then s.data[i.toNat]? else none
theorem sidx_some {β : Type} {s : ByteArray} {i : Int} {F : UInt8 → Option β} {r : β} (h : (sidx s i).bind F = some r) : ∃ m, 0 ≤ i ∧ s.data[i.toNat]? = some m ∧ F m = some r := by
  unfold sidx at h
  split at h
  · rename_i hc
    obtain ⟨m, hm, hF⟩ := Option.bind_eq_some_iff.1 h
    exact ⟨m, hc, hm, hF⟩
  · cases h
theorem cond_t {β : Type} {b : Bool} {x y : Option β} {r : β} (hb : b = true) (h : cond b x y = some r) : x = some r := by subst hb; exact h
theorem cond_f {β : Type} {b : Bool} {x y : Option β} {r : β} (hb : b = false) (h : cond b x y = some r) : y = some r := by subst hb; exact h
structure Yes {β : Type} (x : Option β) (r : β) : Prop where
  eq : x = some r
theorem idx_elim {α β : Type} {l : List α} {i : Int} {F : α → Option β} {r : β} {G : Prop} (g : ∀ m, 0 ≤ i → i < (l.length : Int) → l[i.toNat]? = some m → Yes (F m) r → G) : Yes ((idx l i).bind F) r → G := by
  rintro ⟨h⟩
  obtain ⟨m, h1, h2, h3, h4⟩ := idx_some h
  exact g m h1 h2 h3 ⟨h4⟩
theorem sidx_elim {β : Type} {s : ByteArray} {i : Int} {F : UInt8 → Option β} {r : β} {G : Prop} (g : ∀ m, 0 ≤ i → s.data[i.toNat]? = some m → Yes (F m) r → G) : Yes ((sidx s i).bind F) r → G := by
  rintro ⟨h⟩
  obtain ⟨m, h1, h3, h4⟩ := sidx_some h
  exact g m h1 h3 ⟨h4⟩
theorem gd_elim {β : Type} {p : Prop} [Decidable p] {x : Option β} {r : β} {G : Prop} (g : p → Yes x r → G) : Yes (gd p x) r → G := fun h => g (gd_some h.eq).1 ⟨(gd_some h.eq).2⟩
theorem bind_elim {α β : Type} {x : Option α} {F : α → Option β} {r : β} {G : Prop} (g : ∀ m, x = some m → Yes (F m) r → G) : Yes (x.bind F) r → G := by
  rintro ⟨h⟩
  obtain ⟨m, h1, h2⟩ := bind_some h
  exact g m h1 ⟨h2⟩
theorem bind_elimY {α β : Type} {x : Option α} {F : α → Option β} {r : β} {G : Prop} (g : ∀ m, Yes x m → Yes (F m) r → G) : Yes (x.bind F) r → G := bind_elim fun m h => g m ⟨h⟩
theorem some_elim {β : Type} {x r : β} {G : Prop} (g : x = r → G) : Yes (some x) r → G := fun h => g (Option.some.inj h.eq)
theorem Yes.get {β : Type} {x r : β} (h : Yes (some x) r) : x = r := Option.some.inj h.eq
theorem Yes.none {β : Type} {r : β} {G : Prop} (h : Yes (none : Option β) r) : G := by cases h.eq
theorem condt_elim {β : Type} {b : Bool} {x y : Option β} {r : β} {G : Prop} (hb : b = true) (g : Yes x r → G) : Yes (cond b x y) r → G := fun h => g ⟨cond_t hb h.eq⟩
theorem condf_elim {β : Type} {b : Bool} {x y : Option β} {r : β} {G : Prop} (hb : b = false) (g : Yes y r → G) : Yes (cond b x y) r → G := fun h => g ⟨cond_f hb h.eq⟩
structure KOk (A k : V → SL → List Res → List Res → Prop) : Prop where
  use : ∀ v st R W, A v st R W → k v st R W
structure KOkU (A k : Unit → SL → List Res → List Res → Prop) : Prop where
  use : ∀ v st R W, A v st R W → k v st R W
section
variable {P : Program} {T : Nat} {st : SL} {n : Nat} {ops : Array Oper} {os : List Oper}
theorem regW_opK {K : SL → Nat → Prop} {dst : Option Tmp} {op : Op} {ty : TypeId} {pos : String} {af : Array Edge} {n' : Nat} (hd : dstOk T dst) (hn : n + 64 = n')
    (h : ∀ k : V → SL → List Res → List Res → Prop, KOk (fun v st' R W => regW P T ops os (putSt dst v st') n' K) k → (opC P n op).wp st [] [] k) :
    regW P T ops ({ dst := dst, op := op, type := ty, pos := pos, after := af, guard := none } :: os) st n K :=
  regW_op hd hn fun k hk => h k ⟨fun v st R W => hk v st R W⟩
theorem regD_opK {K : SL → Nat → List RW → Prop} {acc : List RW} {o : Oper} {n' : Nat} (hd : dstOk T o.dst) (hn : n + 64 = n')
    (h : ∀ k : Unit → SL → List Res → List Res → Prop, KOkU (fun u st' R W => regD P T ops os st' n' (acc ++ [(R, W)]) K) k → (stepP P n ops o).wp st [] [] k) : regD P T ops (o :: os) st n acc K :=
  regD_op hd hn fun k hk => h k ⟨fun v st R W => hk v st R W⟩
end
section
variable {P : Program} {T : Nat} {st : SL} {n : Nat} {Q : Exit → SL → Nat → Prop}
theorem here_loop {c : Code} (h : sw P T (.loop c) st n Q) : sw P T (.loop c) st n Q := h
theorem here_join {a b : Code} (h : sw P T (.seq a b) st n Q) : sw P T (.seq a b) st n Q := h
theorem here_meet {ι : Type} {N0 m : Nat} {S : ι → SL} {J : ι → Prop} (h : Gh st n (MeetA m N0 S J)) : Gh st n (MeetA m N0 S J) := h
theorem here_next {ι : Type} {N0 m mx : Nat} {S : ι → SL} {μ : ι → Nat} {J : ι → Prop} (h : Gh st n (NextS m N0 S μ J mx)) : Gh st n (NextS m N0 S μ J mx) := h
theorem here_call {f : FuncId} {xs : List V} {nm : Nat} {R W : List Res} {k : V → SL → List Res → List Res → Prop} (h : (callP P nm f xs).wp st R W k) : (callP P nm f xs).wp st R W k := h
end
section
variable {P : Program} {f : FuncId} {xs ys : List V} {v : V} {nm : Nat} {st : SL} {R W : List Res} {k : V → SL → List Res → List Res → Prop}
theorem call_dataE (hc : Con P f ys [] v []) (e : xs = ys) (hx : V.isDataL ys = true) (h : (nameAll nm (v.ren fun i => ([] : List Nat).getD i 0)).wp st R W k) : (callP P nm f xs).wp st R W k := by
  subst e; exact call_data hc hx h
theorem call_autoE (hc : Con P f ys [] v []) (hy : lendAL st xs = some ys) (hv : v.nb = true)
    (h : (nameAll nm (v.ren fun i => ([] : List Nat).getD i 0)).wp st ((V.namesOfL xs).foldl (fun R r => .r r :: R) R) W k) : (callP P nm f xs).wp st R W k := call_auto hy hc hv h
end
theorem resGo_set (n : Nat) : ∀ (ds : List (List D)) (i : Nat) (row : List V) (st : SL) (R W : List Res) (k : List (List D) → SL → List Res → List Res → Prop), i < ds.length →
    (resV.gol (n + 1) row).wp st R W (fun d st R W => k (ds.set i d) st R W) → (resV.go (n + 1) ((dd ds).set i row)).wp st R W k
  | [], i, row, st, R, W, k, hi, h => by cases hi
  | d :: ds, 0, row, st, R, W, k, hi, h => by
    show (resV.go (n + 1) (row :: dd ds)).wp st R W k
    simp only [resV.go, Prog.wp_bind, resGo_dd, Prog.wp]
    exact h
  | d :: ds, i + 1, row, st, R, W, k, hi, h => by
    show (resV.go (n + 1) (d.map V.d :: (dd ds).set i row)).wp st R W k
    simp only [resV.go, Prog.wp_bind, resGol_d, Prog.wp]
    exact resGo_set n ds i row st R W _ (by simpa using hi) (by simpa only [Prog.wp, List.set_cons_succ] using h)
theorem gh_resRow (r : Nat) {st : SL} {n s i : Nat} {ds : List (List D)} {row : List V} {K : SL → Nat → Prop} (hst : lk st (.r r) = some (.o s ((dd ds).set i row))) (hi : i < ds.length)
    (h : (resV.gol 6 row).wp ((.r r, none) :: st) [] [] fun d st' _ W => .r r ∉ W ∧ Gh ((.r r, some (.o s (dd (ds.set i d)))) :: st') n K) : Gh st n K :=
  gh_resObj r hst (resGo_set 5 ds i row _ _ _ _ hi h)
section
variable {P : Program} {T : Nat} {st : SL} {n : Nat} {ops : Array Oper} {os : List Oper}
theorem regW_opLK (l : List (Nat × Option Nat)) {K : SL → Nat → Prop} {dst : Option Tmp} {op : Op} {ty : TypeId} {pos : String} {af : Array Edge} {n' : Nat} (hd : dstOk T dst) (hn : n + 64 = n')
    (h : ∀ k : V → SL → List Res → List Res → Prop, KOk (fun v st' R W => regW P T ops os (putSt dst v st') n' K) k → (preP l).wp st [] [] fun _ st' R W => (opC P n op).wp st' R W k) :
    regW P T ops ({ dst := dst, op := op, type := ty, pos := pos, after := af, guard := none } :: os) st n K :=
  regW_opL l hd hn fun k hk => by rw [opL, Prog.wp_bind]; exact h k ⟨fun v st R W => hk v st R W⟩
theorem regD_opLK (l : List (Nat × Option Nat)) {K : SL → Nat → List RW → Prop} {acc : List RW} {dst : Option Tmp} {op : Op} {ty : TypeId} {pos : String} {af : Array Edge} {n' : Nat} (hd : dstOk T dst) (hn : n + 64 = n')
    (h : ∀ k : Unit → SL → List Res → List Res → Prop, KOkU (fun u st' R W => regD P T ops os st' n' (acc ++ [(R, W)]) K) k → (preP l).wp st [] [] fun _ st' R W => ((opC P n op).bind (putP dst)).wp st' R W k) :
    regD P T ops ({ dst := dst, op := op, type := ty, pos := pos, after := af, guard := none } :: os) st n acc K :=
  regD_opL l hd hn fun k hk => by
    have := h k ⟨fun v st R W => hk v st R W⟩
    simp only [Prog.wp_bind] at this
    simp only [stepL, opL, Prog.wp_bind]
    exact this
theorem pre_nil {R W : List Res} {K : Unit → SL → List Res → List Res → Prop} (h : K () st R W) : (preP []).wp st R W K := h
theorem pre_obj (r : Nat) {l : List (Nat × Option Nat)} {s : Nat} {xs : List (List V)} {R W : List Res} {K : Unit → SL → List Res → List Res → Prop} (hst : lk st (.r r) = some (.o s xs))
    (h : (resRows xs).wp ((.r r, none) :: st) (.r r :: R) (.r r :: W) fun ds st' R W => (preP l).wp ((.r r, some (.o s (dd ds))) :: st') R (.r r :: W) K) : (preP ((r, none) :: l)).wp st R W K := by
  simp only [preP, Prog.wp, hst, Prog.wp_bind]
  exact h
theorem pre_row (r : Nat) {l : List (Nat × Option Nat)} {s i : Nat} {ds : List (List D)} {row : List V} {R W : List Res} {K : Unit → SL → List Res → List Res → Prop} (hst : lk st (.r r) = some (.o s ((dd ds).set i row))) (hi : i < ds.length)
    (h : (resV.gol 6 row).wp ((.r r, none) :: st) (.r r :: R) (.r r :: W) fun d st' R W => (preP l).wp ((.r r, some (.o s (dd (ds.set i d)))) :: st') R (.r r :: W) K) : (preP ((r, none) :: l)).wp st R W K :=
  pre_obj r hst (resGo_set 5 ds i row _ _ _ _ hi h)
theorem pre_slot (t : Nat) {l : List (Nat × Option Nat)} {R W : List Res} {K : Unit → SL → List Res → List Res → Prop}
    (h : (resSlotP t).wp st R W fun _ st' R W => (preP l).wp st' R W K) : (preP ((t, some 99999) :: l)).wp st R W K := by
  simp only [preP, if_true, Prog.wp_bind]
  exact h
end
def cpyL {α : Type} (l : List α) (i n : Nat) (ys : List α) : List α := l.take i ++ ys.take n ++ l.drop (i + (ys.take n).length)
theorem setSegV (row : List V) (j : Nat) (cs : List V) : setSeg row j cs = row.take j ++ cs ++ row.drop (j + cs.length) := rfl
theorem Rw_copy {α : Type} {f : α → List D} (l ys : List α) (i n : Nat) : setSeg (dd (Rw f l)) i (dd (Rw f (ys.take n))) = dd (Rw f (cpyL l i n ys)) := by
  simp only [setSeg, dd_take, dd_drop, dd_length, Rw_length, Rw_take, Rw_drop, ← dd_append, Rw_append, cpyL]
theorem Rw_copy' {α : Type} {f : α → List D} (l ys : List α) (i n : Nat) : setSeg (dd (Rw f l)) i ((dd (Rw f ys)).take n) = dd (Rw f (cpyL l i n ys)) := by rw [dd_take, Rw_take, Rw_copy]
theorem cpyL_take {α : Type} (n : Nat) (z : α) (ys : List α) : (cpyL (List.replicate n z) 0 n ys).take n = cpyL (List.replicate n z) 0 n ys := by
  apply List.take_of_length_le
  simp only [cpyL, List.length_append, List.length_take, List.length_drop, List.length_replicate]; omega
theorem cpyL_length {α : Type} (l : List α) (i n : Nat) (ys : List α) (h : i + n ≤ l.length) : (cpyL l i n ys).length = l.length := by
  simp only [cpyL, List.length_append, List.length_take, List.length_drop]; omega
theorem toNat_elim {x : Int} {n : Nat} {G : Prop} (h0 : 0 ≤ x) (g : x ≤ (n : Int) → x.toNat ≤ n → G) : x ≤ (n : Int) → G := fun h => g h (by omega)
theorem same_elim {α : Type} {o : Option α} {a b : α} {G : Prop} (ha : o = some a) (g : a = b → G) : o = some b → G := fun h => g (Option.some.inj (ha.symm.trans h))
inductive ConvD : D → D → Prop
  | same {x : D} : ConvD x x
  | nil {m : Md} {s : Nat} : ConvD (.p (.slice none 0 0)) (.row m s [])
inductive Conv1 : V → V → Prop
  | same {x : V} : Conv1 x x
  | nil {m : Md} {s : Nat} : Conv1 (.d (.p (.slice none 0 0))) (.d (.row m s []))
  | rows {m : Md} {s : Nat} {xs ys : List (List D)} : All2 (All2 ConvD) xs ys → Conv1 (.d (.row m s xs)) (.d (.row m s ys))
theorem Conv1.inN {N : Nat → Prop} {x y : V} (h : Conv1 x y) (hx : x.inN N) : y.inN N := by
  cases h with
  | same => exact hx
  | nil => trivial
  | rows => trivial
theorem conv_inNs {N : Nat → Prop} : ∀ {xs ys : List V}, All2 Conv1 xs ys → V.inNs N xs → V.inNs N ys
  | [], _, h, hx => by cases h; trivial
  | x :: xs, _, h, hx => by
    cases h with
    | cons h1 h2 => exact ⟨h1.inN hx.1, conv_inNs h2 hx.2⟩
theorem conv_inNss {N : Nat → Prop} : ∀ {xs ys : List (List V)}, All2 (All2 Conv1) xs ys → V.inNss N xs → V.inNss N ys
  | [], _, h, hx => by cases h; trivial
  | x :: xs, _, h, hx => by
    cases h with
    | cons h1 h2 => exact ⟨conv_inNs h1 hx.1, conv_inNss h2 hx.2⟩
theorem all2_append {α β : Type} {R : α → β → Prop} : ∀ {a : List α} {b : List β} {c : List α} {d : List β}, All2 R a b → All2 R c d → All2 R (a ++ c) (b ++ d)
  | [], _, _, _, h, k => by cases h; exact k
  | x :: a, _, _, _, h, k => by
    cases h with
    | cons h1 h2 => exact .cons h1 (all2_append h2 k)
theorem conv_flatten {α : Type} {R : α → α → Prop} : ∀ {xs ys : List (List α)}, All2 (All2 R) xs ys → All2 R xs.flatten ys.flatten
  | [], _, h => by cases h; exact .nil
  | x :: xs, _, h => by
    cases h with
    | cons h1 h2 => exact all2_append h1 (conv_flatten h2)
theorem all2_length {α β : Type} {R : α → β → Prop} : ∀ {a : List α} {b : List β}, All2 R a b → a.length = b.length
  | [], _, h => by cases h; rfl
  | x :: a, _, h => by
    cases h with
    | cons h1 h2 => simp [all2_length h2]
theorem conv_rows {α : Type} {R : α → α → Prop} {s : Nat} : ∀ {xs ys : List (List α)}, All2 (All2 R) xs ys → (∀ x ∈ xs, x.length = s) → ∀ y ∈ ys, y.length = s
  | [], _, h, hx => by cases h; intro y hy; cases hy
  | x :: xs, _, h, hx => by
    cases h with
    | cons h1 h2 =>
      intro y hy
      cases hy with
      | head => rw [← all2_length h1]; exact hx x (by simp)
      | tail _ hy => exact conv_rows h2 (fun z hz => hx z (by simp [hz])) y hy
theorem RelDs.conv {Z B : Zone} {w : World} {ds ds' : List D} {vs : List Value} {F : List Nat} (h : RelDs Z B w ds vs F) (hc : All2 ConvD ds ds') : RelDs Z B w ds' vs F := by
  induction h generalizing ds' with
  | nil => cases hc; exact .nil
  | p h1 h2 ih =>
    cases hc with
    | cons c1 c2 =>
      cases c1 with
      | same => exact .p h1 (ih c2)
      | nil => exact .none (ih c2)
  | none h1 ih => cases hc with
    | cons c1 c2 => cases c1; exact .none (ih c2)
  | row h1 h2 h3 h4 h5 h6 h7 h8 ih1 ih2 => cases hc with
    | cons c1 c2 => cases c1; exact .row h1 h2 h3 h4 h5 h6 h7 (ih2 c2)
  | ptr h1 h2 h3 h4 h5 h6 ih1 ih2 => cases hc with
    | cons c1 c2 => cases c1; exact .ptr h1 h2 h3 h4 h5 (ih2 c2)
theorem RelVs.conv {Z B : Zone} {w : World} {ρ : Names} {ds ds' : List V} {vs : List Value} {F : List Nat} (h : RelVs Z B w ρ ds vs F) (hc : All2 Conv1 ds ds') : RelVs Z B w ρ ds' vs F := by
  induction h generalizing ds' with
  | nil => cases hc; exact .nil
  | @d x v F ds vs G h1 _ ih =>
    cases hc with
    | cons c1 c2 =>
      cases c1 with
      | same => exact .d h1 (ih c2)
      | @nil m s =>
        cases h1 with
        | p h2 h3 => cases h3; exact .d (.none .nil) (ih c2)
      | @rows m s xs ys hr =>
        cases h1 with
        | none h3 =>
          cases h3
          cases hr
          exact .d (.none .nil) (ih c2)
        | row q1 q2 q3 q4 q5 q6 q7 q8 =>
          cases q8
          have hl := all2_length hr
          have := RelDs.row (q1.conv (conv_flatten hr)) q2 q3 q4 q5 (conv_rows hr q6) (hl ▸ q7) (RelDs.nil (Z := Z) (B := B) (w := w))
          rw [← hl] at this
          exact .d this (ih c2)
  | sl h1 _ ih => cases hc with
    | cons c1 c2 => cases c1; exact .sl h1 (ih c2)
  | mp h1 _ ih => cases hc with
    | cons c1 c2 => cases c1; exact .mp h1 (ih c2)
  | agg h1 h2 _ ih1 ih2 => cases hc with
    | cons c1 c2 => cases c1; exact .agg h1 h2 (ih2 c2)
  | clo h1 _ ih1 ih2 => cases hc with
    | cons c1 c2 => cases c1; exact .clo h1 (ih2 c2)
  | tup h1 _ ih1 ih2 => cases hc with
    | cons c1 c2 => cases c1; exact .tup h1 (ih2 c2)
  | arr h1 h2 h3 h4 h5 _ ih1 ih2 => cases hc with
    | cons c1 c2 => cases c1; exact .arr h1 h2 h3 h4 h5 (ih2 c2)
theorem gh_conv (r : Nat) {st : SL} {n s : Nat} {xs xs' : List (List V)} {K : SL → Nat → Prop} (hst : lk st (.r r) = some (.o s xs)) (hc : All2 (All2 Conv1) xs xs')
    (h : Gh ((.r r, some (.o s xs')) :: st) n K) : Gh st n K := by
  refine gh_trans fun Γ tm w hsat => ⟨_, n, Nat.le_refl _, h, ?_⟩
  obtain ⟨Z, B, ρ, F, hs⟩ := hsat
  refine ⟨Z, B, ρ, F, ?_⟩
  rw [lk_cons]
  refine hs.update (fun y => y = some (.r r)) (Grow.refl _) (fun _ _ _ => rfl) ?_ (fun _ _ => rfl) (fun t _ hlt => ⟨hlt, rfl⟩) (fun _ => ⟨rfl, rfl, rfl⟩) (fun _ h => h) (fun _ _ => rfl) (fun _ h => h) (fun _ h => h) hs.zB (fun _ h => .inl h) (fun _ h => .inl h) ?_ ?_ (fun hh => by cases hh) ?_ ?_ ?_ ?_ ?_
  · intro x hx
    simp only [upd]
    rw [if_neg (fun e => hx (by rw [e]))]
  · intro t c hd
    cases hd
  · intro q c hd hq
    cases hd
    simp only [upd, if_true] at hq
    cases hq
    obtain ⟨h1, h2, h3⟩ := hs.obj r _ hst
    refine ⟨h1, ?_, conv_inNss hc h3⟩
    generalize F (some (.r r)) = G at h2
    cases h2 with
    | none t1 => cases hc; exact .none t1
    | some t1 t2 t3 t4 t5 t6 =>
      refine .some t1 (t2.conv (conv_flatten hc)) t3 t4 ?_ (conv_rows hc t6)
      rw [← all2_length hc]; exact t5
  · intro x hd hx
    cases hd
    simp [upd] at hx
  · intro x hd
    exact hs.nodup x
  · rintro x y rfl rfl hne
    exact absurd rfl hne
  · rintro x rfl b hb
    exact .inl ⟨_, rfl, hb⟩
  · rintro x rfl b hb
    exact ⟨(hs.own _ b hb).2.1, (hs.own _ b hb).1⟩
theorem gh_nameCell (r j : Nat) {st : SL} {n s s2 : Nat} {row : List V} {xs : List (List D)} {K : SL → Nat → Prop} (hst : lk st (.r r) = some (.o s [row])) (hj : row[j]? = some (.d (.row .own s2 xs)))
    (h : Gh ((.r r, some (.o s [row.set j (.sl n s2 0 xs.length)])) :: (.r n, some (.o s2 (dd xs))) :: st) (n + 64) K) : Gh st n K := by
  refine gh_trans fun Γ tm w hsat => ⟨_, n + 64, by omega, h, ?_⟩
  obtain ⟨Z, B, ρ, F, hs⟩ := hsat
  obtain ⟨hN, hO, hin⟩ := hs.obj r _ hst
  obtain ⟨e1, e2, hlt⟩ := row_split hj (V.sl n s2 0 xs.length)
  have hrn : r ≠ n := fun e => by subst e; exact absurd hN (Nat.lt_irrefl _)
  generalize hG : F (some (.r r)) = G at hO
  cases hO with
  | @some _ b o _ us FG hρ hrel hone hrange hblk huni =>
    simp only [List.flatten_cons, List.flatten_nil, List.append_nil] at hrel
    have hinr : V.inNs (· < n) row := hin.1
    obtain ⟨F1, f1, h1⟩ := hs.regroup (r := r) (ps' := row ++ []) (vals' := us ++ []) (X' := [b]) (Fp' := FG ++ []) hG (RelVs.append hrel .nil)
      (by rw [inNs_append]; exact ⟨hinr, trivial⟩)
      (by intro hh; rw [List.nodup_iff_count] at hh ⊢; intro t; have hh := hh t; simp only [List.count_append, List.count_cons, List.count_nil] at hh ⊢; omega)
      (by intro x hx; simp only [List.mem_append, List.mem_cons] at hx ⊢; grind)
    rw [e1] at h1
    have r1 : Run (nameP n (.d (.row .own s2 xs))) (upd (lk st) (.r r) none) (.sl n s2 0 xs.length) (upd (upd (lk st) (.r r) none) (.r n) (some (.o s2 (dd xs)))) [] [.r n] := .set .ret
    obtain ⟨ρ2, F2, hρ2, h2⟩ := name_sound (N := (· < n)) (pre := row.take j) (ps := row.drop (j + 1)) r1 (Nat.lt_irrefl n) (by simpa using h1)
    rw [← e2] at h2
    have hul : us.length = (row.set j (.sl n s2 0 xs.length)).length := by
      have := hrel.length
      rw [List.length_set]; omega
    have hsl : row.length = s := huni row (by simp)
    obtain ⟨F3, h3⟩ := SatF.close (r := r) (s := s) (o := o) (xs := [row.set j (.sl n s2 0 xs.length)]) (us := us) (vc := []) (ps := []) (X := []) (by simpa using h2)
      (by simpa using hul) (Or.inl hN) (by simp [upd, hrn]) ((hρ2 r hrn).trans hρ) hone hrange (by simpa using hblk) (by intro x hx; simp at hx; subst hx; rw [List.length_set]; exact hsl)
      (by
        refine ⟨?_, trivial⟩
        rw [e2, inNs_append]
        rw [e1, inNs_append] at hinr
        exact ⟨V.inNs_mono (fun _ h => .inl h) _ hinr.1, .inr rfl, V.inNs_mono (fun _ h => .inl h) _ hinr.2.2⟩)
    refine ⟨Z, B, ρ2, F3, ?_⟩
    rw [lk_cons, lk_cons]
    have e3 : upd (upd (upd (lk st) (.r r) none) (.r n) (some (.o s2 (dd xs)))) (.r r) (some (.o s [row.set j (.sl n s2 0 xs.length)])) = upd (upd (lk st) (.r n) (some (.o s2 (dd xs)))) (.r r) (some (.o s [row.set j (.sl n s2 0 xs.length)])) := by
      funext x
      simp only [upd]
      split
      · rfl
      · split <;> rfl
    rw [← e3]
    exact h3.weakN (fun q hq => by rcases hq with hq | hq <;> omega)
theorem gh_resSl (r j : Nat) {st : SL} {n s r2 s2 i2 n2 : Nat} {row : List V} {K : SL → Nat → Prop} (hst : lk st (.r r) = some (.o s [row])) (hj : row[j]? = some (.sl r2 s2 i2 n2))
    (h : (resV 6 (.sl r2 s2 i2 n2)).wp ((.r r, none) :: st) [] [] fun d st' _ _ => Gh ((.r r, some (.o s [row.set j (.d d)])) :: st') n K) : Gh st n K := by
  obtain ⟨d, st', R', W', R2, W2, r1, h3, -, hW⟩ := Prog.wp_run h
  refine gh_trans fun Γ tm w hsat => ⟨_, n, Nat.le_refl _, h3, ?_⟩
  obtain ⟨Z, B, ρ, F, hs⟩ := hsat
  rw [lk_cons] at r1
  obtain ⟨F3, h3⟩ := resCell_sound hs hst hj r1
  rw [lk_cons]
  exact ⟨Z, B, ρ, F3, h3⟩
theorem here_reg {P : Program} {T : Nat} {st : SL} {n : Nat} {Q : Exit → SL → Nat → Prop} {i : Nat} {ops : Array Oper} {b : Bool} (h : sw P T (.region i ops b) st n Q) : sw P T (.region i ops b) st n Q := h
def Md.fz : Md → Md
  | .bor => .bor
  | _ => .frz
mutual
def D.frz : D → D
  | .p v => .p v
  | .row m s xs => .row m.fz s (D.frzLL xs)
  | .ptr m cs => .ptr m.fz (D.frzL cs)
def D.frzL : List D → List D
  | [] => []
  | x :: xs => x.frz :: D.frzL xs
def D.frzLL : List (List D) → List (List D)
  | [] => []
  | x :: xs => D.frzL x :: D.frzLL xs
end
theorem D.frzL_map : ∀ xs : List D, D.frzL xs = xs.map D.frz
  | [] => rfl
  | x :: xs => by rw [D.frzL, D.frzL_map xs]; rfl
theorem D.frzLL_map : ∀ xs : List (List D), D.frzLL xs = xs.map fun r => r.map D.frz
  | [] => rfl
  | x :: xs => by rw [D.frzLL, D.frzLL_map xs, D.frzL_map]; rfl
theorem D.frz_flatten (xs : List (List D)) : D.frzL xs.flatten = (D.frzLL xs).flatten := by
  rw [D.frzL_map, D.frzLL_map, List.map_flatten]
theorem Md.fz_foot (m : Md) (b : Nat) : m.fz.foot b = [] := by cases m <;> rfl
theorem Md.fz_own (m : Md) : m.fz ≠ .own := by cases m <;> simp [Md.fz]
theorem Rw_frz {α : Type} {f g : α → List D} (h : ∀ x, D.frzL (f x) = g x) (l : List α) : D.frzLL (Rw f l) = Rw g l := by
  rw [D.frzLL_map]
  simp only [Rw, List.map_map]
  apply List.map_congr_left
  intro x _
  show (f x).map D.frz = g x
  rw [← D.frzL_map, h]
theorem cI_frz (k : IntKind) (l : List Int) : D.frzLL (Rw (cI k) l) = Rw (cI k) l := Rw_frz (fun _ => rfl) l
theorem here_retw {P : Program} {rs : List ResultVar} {v : V} {objs' : List C} {st : SL} {n : Nat} (h : Gh st n (RetW P rs v objs')) : Gh st n (RetW P rs v objs') := h
section
variable {Z B Z2 B2 : Zone} {w : World} {ρ : Names}
theorem RelDs.frz {ds : List D} {vs : List Value} {F : List Nat} (h : RelDs Z B w ds vs F) (hF : ∀ b ∈ F, Z2 b) (hZ : ∀ b, Z b → Z2 b) (hB : ∀ b, B b → B2 b) : RelDs Z2 B2 w (D.frzL ds) vs [] := by
  induction h with
  | nil => exact .nil
  | p h1 _ ih => exact .p h1 (ih hF)
  | none _ ih => exact .none (ih hF)
  | @row m s b o c xs us F ds vs G h1 h2 h3 h4 h5 h6 h7 h8 ih1 ih2 =>
    have i1 := ih1 (fun x hx => hF x (by simp [hx]))
    have i2 := ih2 (fun x hx => hF x (by simp [hx]))
    rw [D.frz_flatten] at i1
    have hl : (D.frzLL xs).length = xs.length := by rw [D.frzLL_map, List.length_map]
    have := RelDs.row (m := m.fz) (s := s) (c := c) i1 h2 (by
      cases m with
      | own => exact hF b (by simp [Md.foot])
      | frz => exact hZ b h3
      | bor => exact hB b h3) (fun e => absurd e (Md.fz_own m)) (fun _ => rfl) (by
      intro x hx
      rw [D.frzLL_map] at hx
      obtain ⟨y, hy, rfl⟩ := List.mem_map.1 hx
      simpa using h6 y hy) (by rw [hl]; exact h7) i2
    rw [hl, Md.fz_foot] at this
    exact this
  | @ptr m b o cs us F ds vs G h1 h2 h3 h4 h5 h6 ih1 ih2 =>
    have i1 := ih1 (fun x hx => hF x (by simp [hx]))
    have i2 := ih2 (fun x hx => hF x (by simp [hx]))
    have := RelDs.ptr (m := m.fz) i1 h2 (by
      cases m with
      | own => exact hF b (by simp [Md.foot])
      | frz => exact hZ b h3
      | bor => exact hB b h3) (fun e => absurd e (Md.fz_own m)) (fun _ => rfl) i2
    rw [Md.fz_foot] at this
    exact this
theorem RelDs.wide {ds : List D} {vs : List Value} {F : List Nat} (h : RelDs Z B w ds vs F) (hZ : ∀ b, Z b → Z2 b) (hB : ∀ b, B b → B2 b) : RelDs Z2 B2 w ds vs F := h.mono (fun _ _ => rfl) (fun _ _ => rfl) (fun _ _ => rfl) hZ hB
end
inductive FrzTo : D → D → Prop
  | all {s : Nat} {xs : List (List D)} : FrzTo (.row .own s xs) (.row .frz s (D.frzLL xs))
  | inn {s : Nat} {xs : List (List D)} : FrzTo (.row .own s xs) (.row .own s (D.frzLL xs))
theorem FrzTo.rel {x y : D} (h : FrzTo x y) {Z B : Zone} {w : World} {v : Value} {F : List Nat} (hr : RelDs Z B w [x] [v] F) :
    ∃ F', (∀ b ∈ F', b ∈ F) ∧ (F.Nodup → F'.Nodup) ∧ (F.Nodup → ∀ (Z2 B2 : Zone), (∀ b, Z b → Z2 b) → (∀ b, B b → B2 b) → (∀ b ∈ F, b ∉ F' → Z2 b) → RelDs Z2 B2 w [y] [v] F') := by
  cases h with
  | all =>
    refine ⟨[], by simp, by simp, fun hn Z2 B2 hZ hB hm => ?_⟩
    have := hr.frz (Z2 := Z2) (B2 := B2) (fun b hb => hm b hb (by simp)) hZ hB
    simpa [D.frzL, D.frz, Md.fz] using this
  | @inn s xs =>
    cases hr with
    | none h1 => cases h1; exact ⟨[], by simp, by simp, fun _ Z2 B2 hZ hB hm => by simpa [D.frzLL] using RelDs.none (m := .own) (s := s) (A := _) RelDs.nil⟩
    | @row _ _ b o c _ us FF _ _ _ q1 q2 q3 q4 q5 q6 q7 q8 =>
      cases q8
      refine ⟨[b], by simp [Md.foot], by simp, fun hn Z2 B2 hZ hB hm => ?_⟩
      have hbF : b ∉ FF := by
        simp only [Md.foot, List.append_nil, List.cons_append, List.nil_append, List.nodup_cons] at hn
        exact hn.1
      have i1 := q1.frz (Z2 := Z2) (B2 := B2) (fun x hx => hm x (by simp [hx]) (by simp; rintro rfl; exact hbF hx)) hZ hB
      rw [D.frz_flatten] at i1
      have hl : (D.frzLL xs).length = xs.length := by rw [D.frzLL_map, List.length_map]
      have := RelDs.row (m := .own) (s := s) (c := c) i1 q2 trivial (fun e => q4 rfl) (fun e => absurd rfl e) (by
        intro x hx
        rw [D.frzLL_map] at hx
        obtain ⟨y, hy, rfl⟩ := List.mem_map.1 hx
        simpa using q6 y hy) (by rw [hl]; exact q7) (RelDs.nil (Z := Z2) (B := B2) (w := w))
      rw [hl] at this
      simpa [Md.foot] using this
theorem gh_frz (r j : Nat) {st : SL} {n s : Nat} {row : List V} {x y : D} {K : SL → Nat → Prop} (hst : lk st (.r r) = some (.o s [row])) (hj : row[j]? = some (.d x)) (hxy : FrzTo x y)
    (h : Gh ((.r r, some (.o s [row.set j (.d y)])) :: st) n K) : Gh st n K := by
  refine gh_trans fun Γ tm w hsat => ⟨_, n, Nat.le_refl _, h, ?_⟩
  obtain ⟨Z, B, ρ, F, hs⟩ := hsat
  obtain ⟨hN, hO, hin⟩ := hs.obj r _ hst
  obtain ⟨e1, e2, hlt⟩ := row_split hj (V.d y)
  have hndr := hs.nodup (some (.r r))
  have hown := hs.own (some (.r r))
  generalize hG : F (some (.r r)) = G at hO hndr hown
  cases hO with
  | @some _ b o _ us FG hρ hrel hone hrange hblk huni =>
    simp only [List.flatten_cons, List.flatten_nil, List.append_nil] at hrel
    have hinr : V.inNs (· < n) row := hin.1
    rw [e1] at hrel
    obtain ⟨u1, u23, Ga, Gbc, rfl, rfl, k1, k23⟩ := hrel.split
    obtain ⟨v, u3, Gb, Gc, rfl, rfl, k2, k3⟩ := k23.cons_split
    have kd : RelDs Z B w [x] [v] Gb := RelVs.toD (ds := [x]) k2
    obtain ⟨F', m1, m2, m3⟩ := hxy.rel kd
    have hnb : Gb.Nodup := by
      rw [List.nodup_cons, List.nodup_append, List.nodup_append] at hndr
      exact hndr.2.2.1.1
    let Z2 : Zone := fun q => Z q ∨ (q ∈ Gb ∧ q ∉ F')
    let B2 : Zone := fun q => B q ∨ (q ∈ Gb ∧ q ∉ F')
    have kd2 := m3 hnb Z2 B2 (fun _ h => .inl h) (fun _ h => .inl h) (fun q h1 h2 => .inr ⟨h1, h2⟩)
    have hmem : ∀ q ∈ Gb, q ∈ b :: (Ga ++ (Gb ++ Gc)) := fun q hq => by simp [hq]
    refine ⟨Z2, B2, ρ, fun q => if q = some (.r r) then b :: (Ga ++ (F' ++ Gc)) else F q, ?_⟩
    rw [lk_cons]
    have hnd2 : (b :: (Ga ++ (F' ++ Gc))).Nodup := by
      rw [List.nodup_cons, List.nodup_append, List.nodup_append] at hndr ⊢
      obtain ⟨a1, a2, ⟨a3, a4, a5⟩, a6⟩ := hndr
      refine ⟨?_, a2, ⟨m2 a3, a4, fun p hp q hq => a5 p (m1 p hp) q hq⟩, ?_⟩
      · intro hh
        apply a1
        simp only [List.mem_append] at hh ⊢
        rcases hh with hh | hh | hh
        · exact .inl hh
        · exact .inr (.inl (m1 _ hh))
        · exact .inr (.inr hh)
      · intro p hp q hq
        refine a6 p hp q ?_
        simp only [List.mem_append] at hq ⊢
        exact hq.imp (m1 q) id
    have hsub : ∀ q ∈ b :: (Ga ++ (F' ++ Gc)), q ∈ b :: (Ga ++ (Gb ++ Gc)) := by
      intro q hq
      simp only [List.mem_cons, List.mem_append] at hq ⊢
      rcases hq with hq | hq | hq | hq
      · exact .inl hq
      · exact .inr (.inl hq)
      · exact .inr (.inr (.inl (m1 _ hq)))
      · exact .inr (.inr (.inr hq))
    have hnot : ∀ q ∈ b :: (Ga ++ (F' ++ Gc)), ¬ (q ∈ Gb ∧ q ∉ F') := by
      rintro q hq ⟨h1, h2⟩
      rw [List.nodup_cons, List.nodup_append, List.nodup_append] at hndr
      obtain ⟨a1, a2, ⟨a3, a4, a5⟩, a6⟩ := hndr
      simp only [List.mem_cons, List.mem_append] at hq
      rcases hq with rfl | hq | hq | hq
      · exact a1 (by simp [h1])
      · exact a6 q hq q (by simp [h1]) rfl
      · exact h2 hq
      · exact a5 q h1 q hq rfl
    refine hs.update (fun q => q = some (.r r)) (Grow.refl _) (fun _ _ _ => rfl) ?_ ?_ (fun t _ hlt => ⟨hlt, rfl⟩) (fun _ => ⟨rfl, rfl, rfl⟩) (fun _ h => h) (fun _ _ => rfl) (fun _ h => .inl h) (fun _ h => .inl h) ?_ ?_ ?_ ?_ ?_ (fun hh => by cases hh) ?_ ?_ ?_ ?_ ?_
    · intro q hq
      simp only [upd]
      rw [if_neg (fun e => hq (by rw [e]))]
    · intro q hq
      simp only [if_neg hq]
    · rintro q (hq | hq)
      · exact .inl (hs.zB q hq)
      · exact .inr hq
    · rintro q (hq | hq)
      · exact .inl hq
      · exact .inr ⟨(hown q (hmem q hq.1)).2.1, .inl ⟨_, rfl, by rw [hG]; exact hmem q hq.1⟩⟩
    · rintro q (hq | hq)
      · exact .inl hq
      · exact .inr (.inl ⟨_, rfl, by rw [hG]; exact hmem q hq.1⟩)
    · intro t c hd
      cases hd
    · intro q c hd hq
      cases hd
      simp only [upd, if_true] at hq
      cases hq
      have wide : ∀ {ds : List V} {vs : List Value} {H : List Nat}, RelVs Z B w ρ ds vs H → RelVs Z2 B2 w ρ ds vs H := fun h1 =>
        h1.mono (N := fun _ => True) (inNs_true _) (fun _ _ => rfl) (fun _ _ => rfl) (fun _ _ => rfl) (fun _ _ => rfl) (fun _ h => .inl h) (fun _ h => .inl h) (fun _ _ h => h)
      refine ⟨hN, ?_, ?_⟩
      · simp only [if_true]
        refine .some (vs := u1 ++ v :: u3) hρ ?_ hone hrange (by simpa using hblk) (by intro z hz; simp at hz; subst hz; rw [List.length_set]; exact huni row (by simp))
        simp only [List.flatten_cons, List.flatten_nil, List.append_nil]
        rw [e2]
        refine RelVs.append (wide k1) ?_
        exact RelVs.append (RelVs.ofD (ds := [y]) kd2) (wide k3)
      · refine ⟨?_, trivial⟩
        rw [e2, inNs_append]
        rw [e1, inNs_append] at hinr
        exact ⟨hinr.1, trivial, hinr.2.2⟩
    · intro q hd hx
      cases hd
      simp [upd] at hx
    · rintro q rfl
      simp only [if_true]
      exact hnd2
    · rintro p q rfl rfl hne
      exact absurd rfl hne
    · rintro q rfl z hz
      simp only [if_true] at hz
      exact .inl ⟨_, rfl, by rw [hG]; exact hsub z hz⟩
    · rintro q rfl z hz
      simp only [if_true] at hz
      refine ⟨(hown z (hsub z hz)).2.1, ?_⟩
      rintro (hh | hh)
      · exact (hown z (hsub z hz)).1 hh
      · exact hnot z hz hh
set_option linter.defProp false
def bn := And.intro @List.getElem?_cons_zero.{0} <| And.intro @List.getElem?_cons_succ.{0} <| And.intro @List.take_succ_cons.{0} <| And.intro @List.take_zero.{0} <| And.intro @List.drop_succ_cons.{0} <| And.intro @List.drop_zero.{0} <| And.intro @List.set_cons_zero.{0} <| And.intro @List.set_cons_succ.{0} <| And.intro @List.nil_append.{0} <| And.intro @List.cons_append.{0} <| And.intro @List.append_nil.{0} <| And.intro @List.map_cons.{0,0} <| And.intro @List.map_nil.{0,0} <| And.intro @List.forall_mem_cons.{0} <| And.intro @List.not_mem_nil.{0} <| And.intro @List.mem_cons.{0} <| And.intro @List.length_nil.{0} <| And.intro @List.length_cons.{0} <| And.intro @List.length_replicate.{0} <| And.intro @List.length_set.{0} <| And.intro @List.set_set.{0} <| And.intro @List.getElem?_set_self'.{0} <| And.intro @List.take_length.{0} <| And.intro @List.getElem?_toArray.{0} <| And.intro @Option.map_some.{0,0} <| And.intro @Option.bind_some.{0,0} <| And.intro @Int.toNat_natCast <| And.intro @Int.ofNat_lt <| And.intro @Int.natCast_nonneg <| And.intro @Int.cast_ofNat_Int <| And.intro @nat_lt_zero <| And.intro @nat_one <| And.intro @nat_zero <| And.intro @dd_length <| And.intro @dd_get <| And.intro @dd_take <| And.intro @dd_drop <| And.intro @resGo_dd <| And.intro @undd_dd <| And.intro @intBin_add <| And.intro @intBin_sub <| And.intro @intBin_mul <| And.intro @intBin_and <| And.intro @intBin_or <| And.intro @intBin_xor <| And.intro @intBin_andNot <| And.intro @intBin_eql <| And.intro @intBin_neq <| And.intro @intBin_lss <| And.intro @intBin_leq <| And.intro @intBin_gtr <| And.intro @intBin_geq <| And.intro @Rw_length <| And.intro @Rw_get <| And.intro @Rw_take <| And.intro @Rw_drop <| And.intro @Rw_append <| And.intro @cI_plain <| And.intro @cB_plain <| And.intro @cS_plain <| And.intro @cI_set <| And.intro @cB_set <| And.intro @cS_set <| And.intro @cI_rep <| And.intro @cB_rep <| And.intro @cS_rep <| And.intro @Int.le_refl <| And.intro @Nat.add_zero <| And.intro @Nat.zero_add <| And.intro @Nat.le_refl @Nat.sub_zero
def bb := And.intro @cI_one <| And.intro @cB_one <| And.intro @cS_one <| And.intro @cI_cons <| And.intro @cB_cons <| And.intro @cS_cons <| And.intro @cI_done <| And.intro @cB_done <| And.intro @cS_done <| And.intro @cI_dcons <| And.intro @cB_dcons @cS_dcons
def lkb := And.intro @Res.s.injEq <| And.intro @Res.r.injEq <| And.intro @if_true.{1} @if_false.{1}
def rxb := And.intro @List.set_cons_zero.{0} <| And.intro @List.set_cons_succ.{0} <| And.intro @List.length_nil.{0} <| And.intro @List.length_cons.{0} <| And.intro @List.take_succ_cons.{0} <| And.intro @List.take_of_length_le.{0} <| And.intro @List.length_set.{0} <| And.intro @List.length_replicate.{0} <| And.intro @List.take_length.{0} <| And.intro @List.take_nil.{0} <| And.intro @List.take_zero.{0} <| And.intro @List.drop_nil.{0} <| And.intro @List.map_nil.{0,0} <| And.intro @List.map_cons.{0,0} <| And.intro @resGo_dd <| And.intro @dd_length <| And.intro @dd_take <| And.intro @dd_drop <| And.intro @dd_get <| And.intro @List.drop_zero.{0} <| And.intro @Rw_length <| And.intro @Rw_take <| And.intro @Rw_drop <| And.intro @Nat.zero_add <| And.intro @Nat.le_refl <| And.intro @true_and <| And.intro @and_true @and_self
def hyb := And.intro @List.length_set.{0} <| And.intro @List.length_replicate.{0} <| And.intro @Option.bind_some.{0,0} <| And.intro @Option.map_some.{0,0} <| And.intro @undd_dd <| And.intro @dd_length <| And.intro @dd_take <| And.intro @dd_drop <| And.intro @Rw_length <| And.intro @Rw_take <| And.intro @Rw_drop <| And.intro @Nat.zero_add <| And.intro @Nat.add_zero <| And.intro @Nat.le_refl <| And.intro @true_and <| And.intro @and_true <| And.intro @and_self <| And.intro @List.take_length.{0} <| And.intro @List.drop_zero.{0} <| And.intro @C.o.injEq <| And.intro @V.d.injEq <| And.intro @List.getElem?_cons_zero.{0} <| And.intro @List.length_cons.{0} <| And.intro @List.length_nil.{0} <| And.intro @Nat.zero_le <| And.intro @List.map_cons.{0,0} <| And.intro @List.map_nil.{0,0} <| And.intro @cI_lend <| And.intro @cB_lend @cS_lend
def nbb := And.intro @cI_nb <| And.intro @cB_nb <| And.intro @cS_nb <| And.intro @Bool.and_self @Bool.and_true
def mmb := And.intro @not_false_eq_true <| And.intro @List.not_mem_nil.{0} <| And.intro @List.mem_cons.{0} @or_self
def evb := And.intro @true_and <| And.intro @and_true <| And.intro @Bool.false_eq_true <| And.intro @Bool.not_true <| And.intro @Bool.not_false <| And.intro @Bool.or_false <| And.intro @Bool.or_true <| And.intro @implies_true.{1} <| And.intro @false_implies <| And.intro @and_self @true_or
def evd := And.intro @RetW.eq_1 <| And.intro @opC.eq_1 <| And.intro @opC.eq_2 <| And.intro @opC.eq_3 <| And.intro @opP.eq_1 <| And.intro @opP.eq_2 <| And.intro @opP.eq_3 <| And.intro @opP.eq_4 <| And.intro @opP.eq_5 <| And.intro @opP.eq_6 <| And.intro @opP.eq_7 <| And.intro @opP.eq_8 <| And.intro @opP.eq_9 <| And.intro @opP.eq_10 <| And.intro @opP.eq_11 <| And.intro @opP.eq_12 <| And.intro @opP.eq_13 <| And.intro @opP.eq_14 <| And.intro @opP.eq_15 <| And.intro @opP.eq_16 <| And.intro @opP.eq_17 <| And.intro @opP.eq_18 <| And.intro @opP.eq_19 <| And.intro @opP.eq_20 <| And.intro @opP.eq_21 <| And.intro @opP.eq_22 <| And.intro @opP.eq_23 <| And.intro @opP.eq_24 <| And.intro @opP.eq_25 <| And.intro @opP.eq_26 <| And.intro @fetchN.eq_1 <| And.intro @fetchP.eq_1 <| And.intro @fetchP.eq_2 <| And.intro @fetchP.eq_3 <| And.intro @fetchP.eq_4 <| And.intro @fetchAll.eq_1 <| And.intro @fetchAll.eq_2 <| And.intro @fetchO.eq_1 <| And.intro @fetchO.eq_2 <| And.intro @Prog.bind.eq_1 <| And.intro @Prog.bind.eq_2 <| And.intro @Prog.bind.eq_3 <| And.intro @Prog.bind.eq_4 <| And.intro @Prog.bind.eq_5 <| And.intro @Prog.bind.eq_6 <| And.intro @Prog.wp.eq_1 <| And.intro @Prog.wp.eq_2 <| And.intro @Prog.wp.eq_3 <| And.intro @Prog.wp.eq_4 <| And.intro @Prog.wp.eq_5 <| And.intro @Prog.wp.eq_6 <| And.intro @lk.eq_1 <| And.intro @lk.eq_2 <| And.intro @nameP.eq_1 <| And.intro @nameP.eq_2 <| And.intro @nameP.eq_3 <| And.intro @nameP.eq_4 <| And.intro @nameAll.eq_1 <| And.intro @nameAll.eq_2 <| And.intro @nameAll.eq_3 <| And.intro @putSt.eq_1 <| And.intro @putSt.eq_2 <| And.intro @stepP.eq_1 <| And.intro @putP.eq_1 <| And.intro @putP.eq_2 <| And.intro @V.lin.eq_1 <| And.intro @V.lin.eq_2 <| And.intro @V.lin.eq_3 <| And.intro @V.lin.eq_4 <| And.intro @V.lin.eq_5 <| And.intro @V.lin.eq_6 <| And.intro @V.lin.eq_7 <| And.intro @V.linL.eq_1 <| And.intro @V.linL.eq_2 <| And.intro @D.lin.eq_1 <| And.intro @D.lin.eq_2 <| And.intro @D.lin.eq_3 <| And.intro @isNil.eq_1 <| And.intro @isNil.eq_2 <| And.intro @isNil.eq_3 <| And.intro @isNil.eq_4 <| And.intro @binP.eq_1 <| And.intro @binP.eq_2 <| And.intro @binP.eq_3 <| And.intro @binP.eq_4 <| And.intro @binP.eq_5 <| And.intro @binP.eq_6 <| And.intro @binP.eq_7 <| And.intro @unP.eq_1 <| And.intro @unP.eq_2 <| And.intro @unP.eq_3 <| And.intro @unP.eq_4 <| And.intro @unP.eq_5 <| And.intro @unP.eq_6 <| And.intro @BinOp.isShift.eq_1 <| And.intro @BinOp.isShift.eq_2 <| And.intro @BinOp.isShift.eq_3 <| And.intro @Prog.ofO.eq_1 <| And.intro @Prog.ofO.eq_2 <| And.intro @fieldAddrP.eq_1 <| And.intro @fieldP.eq_1 <| And.intro @fieldP.eq_2 <| And.intro @indexAddrP.eq_1 <| And.intro @loadP.eq_1 <| And.intro @loadP.eq_2 <| And.intro @loadP.eq_3 <| And.intro @loadP.eq_4 <| And.intro @storeP.eq_1 <| And.intro @storeP.eq_2 <| And.intro @boxP.eq_1 <| And.intro @allocP.eq_1 <| And.intro @cellsP.eq_1 <| And.intro @cellsP.eq_2 <| And.intro @cellsP.eq_3 <| And.intro @cellsP.eq_4 <| And.intro @asVal.eq_1 <| And.intro @asVal.eq_2 <| And.intro @outP.eq_1 <| And.intro @outP.eq_2 <| And.intro @outT.eq_1 <| And.intro @outT.eq_2 <| And.intro @outT.eq_3 <| And.intro @cntT.eq_1 <| And.intro @cntT.eq_2 <| And.intro @cntT.eq_3 <| And.intro @TyK.field.eq_1 <| And.intro @TyK.field.eq_2 <| And.intro @TyK.agg.eq_1 <| And.intro @TyK.agg.eq_2 <| And.intro @TyK.agg.eq_3 <| And.intro @zeroRow.eq_1 <| And.intro @V.ren.eq_1 <| And.intro @V.ren.eq_2 <| And.intro @V.ren.eq_3 <| And.intro @V.ren.eq_4 <| And.intro @V.ren.eq_5 <| And.intro @V.ren.eq_6 <| And.intro @V.ren.eq_7 <| And.intro @V.renL.eq_1 <| And.intro @V.renL.eq_2 <| And.intro @minmaxP.eq_1 <| And.intro @minmaxP.eq_2 <| And.intro @lenP.eq_1 <| And.intro @lenOf.eq_1 <| And.intro @lenOf.eq_2 <| And.intro @lenOf.eq_3 <| And.intro @lenOf.eq_4 <| And.intro @lenOf.eq_5 <| And.intro @lenStr.eq_1 <| And.intro @lenStr.eq_2 <| And.intro @V.asInt.eq_1 <| And.intro @V.asInt.eq_2 <| And.intro @sliceP.eq_1 <| And.intro @sliceP.eq_2 <| And.intro @sliceP.eq_3 <| And.intro @sliceP.eq_4 <| And.intro @sliceP.eq_5 <| And.intro @boundP.eq_1 <| And.intro @boundP.eq_2 <| And.intro @makeSliceP.eq_1 <| And.intro @convertP.eq_1 <| And.intro @appendP.eq_1 <| And.intro @rowsOfP.eq_1 <| And.intro @rowsOfP.eq_2 <| And.intro @rowsOfP.eq_3 <| And.intro @rowsOfP.eq_4 <| And.intro @rowsOfP.eq_5 <| And.intro @rowsOfP.eq_6 <| And.intro @ontoP.eq_1 <| And.intro @ontoP.eq_2 <| And.intro @sizeFits.eq_1 <| And.intro @V.rowSize.eq_1 <| And.intro @V.rowSize.eq_2 <| And.intro @V.rowSize.eq_3 <| And.intro @V.rowSize.eq_4 <| And.intro @V.rowSize.eq_5 <| And.intro @TyK.src.eq_1 <| And.intro @TyK.src.eq_2 <| And.intro @TyK.src.eq_3 <| And.intro @resV.eq_1 <| And.intro @resV.eq_2 <| And.intro @resV.eq_3 <| And.intro @resV.eq_4 <| And.intro @resV.eq_5 <| And.intro @resV.eq_6 <| And.intro @resV.go.eq_1 <| And.intro @resV.go.eq_2 <| And.intro @resV.gol.eq_1 <| And.intro @resV.gol.eq_2 <| And.intro @retP.eq_1 <| And.intro @retP.eq_2 <| And.intro @retP.eq_3 <| And.intro @retOne.eq_1 <| And.intro @retOne.eq_2 <| And.intro @retAll.eq_1 <| And.intro @retAll.eq_2 <| And.intro @retAll.eq_3 <| And.intro @resTo.eq_1 <| And.intro @resTo.eq_2 <| And.intro @resTo.eq_3 <| And.intro @resTo.eq_4 <| And.intro @objsAre.eq_1 <| And.intro @objsAre.eq_2 <| And.intro @Prog.wp_bind <| And.intro @ite_true.{1} <| And.intro @ite_false.{1} <| And.intro @ite_true.{2} <| And.intro @ite_false.{2} <| And.intro @forall_eq_or_imp.{1} <| And.intro @forall_const.{1} <| And.intro @forall_const.{0} <| And.intro @decide_true <| And.intro @decide_false <| And.intro @Option.map_eq_map.{0} @Function.const_apply.{1,1}
def rxd := And.intro @resSlotP.eq_1 <| And.intro @nameSlotP.eq_1 <| And.intro @Prog.wp.eq_1 <| And.intro @Prog.wp.eq_2 <| And.intro @Prog.wp.eq_3 <| And.intro @Prog.wp.eq_4 <| And.intro @Prog.wp.eq_5 <| And.intro @Prog.wp.eq_6 <| And.intro @Prog.bind.eq_1 <| And.intro @Prog.bind.eq_2 <| And.intro @Prog.bind.eq_3 <| And.intro @Prog.bind.eq_4 <| And.intro @Prog.bind.eq_5 <| And.intro @Prog.bind.eq_6 <| And.intro @Prog.ofO.eq_1 <| And.intro @Prog.ofO.eq_2 <| And.intro @resV.eq_1 <| And.intro @resV.eq_2 <| And.intro @resV.eq_3 <| And.intro @resV.eq_4 <| And.intro @resV.eq_5 <| And.intro @resV.eq_6 <| And.intro @resV.go.eq_1 <| And.intro @resV.go.eq_2 <| And.intro @resV.gol.eq_1 <| And.intro @resV.gol.eq_2 <| And.intro @nameAll.eq_1 <| And.intro @nameAll.eq_2 <| And.intro @nameAll.eq_3 <| And.intro @nameP.eq_1 <| And.intro @nameP.eq_2 <| And.intro @nameP.eq_3 <| And.intro @nameP.eq_4 <| And.intro @outP.eq_1 <| And.intro @outP.eq_2 <| And.intro @outT.eq_1 <| And.intro @outT.eq_2 <| And.intro @outT.eq_3 <| And.intro @cntT.eq_1 <| And.intro @cntT.eq_2 <| And.intro @cntT.eq_3 <| And.intro @V.lin.eq_1 <| And.intro @V.lin.eq_2 <| And.intro @V.lin.eq_3 <| And.intro @V.lin.eq_4 <| And.intro @V.lin.eq_5 <| And.intro @V.lin.eq_6 <| And.intro @V.lin.eq_7 <| And.intro @D.lin.eq_1 <| And.intro @D.lin.eq_2 <| And.intro @D.lin.eq_3 @Prog.wp_bind
def lkd := And.intro @putSt.eq_1 <| And.intro @putSt.eq_2 <| And.intro @lk.eq_1 @lk.eq_2
def hyd := And.intro @lendAL.eq_1 <| And.intro @lendAL.eq_2 <| And.intro @lendA.eq_1 <| And.intro @lendA.eq_2 <| And.intro @lendA.eq_3 <| And.intro @lendA.eq_4 <| And.intro @lendA.eq_5 <| And.intro @undd.unddR.eq_1 <| And.intro @undd.unddR.eq_2 <| And.intro @undd.unddR.eq_3 <| And.intro @D.lendL.eq_1 <| And.intro @D.lendL.eq_2 <| And.intro @D.lend.eq_1 <| And.intro @D.lend.eq_2 <| And.intro @D.lend.eq_3 @Md.lend.eq_1
def nbd := And.intro @V.nb.eq_1 <| And.intro @V.nb.eq_2 <| And.intro @V.nb.eq_3 <| And.intro @V.nb.eq_4 <| And.intro @V.nb.eq_5 <| And.intro @V.nb.eq_6 <| And.intro @V.nb.eq_7 <| And.intro @V.nbL.eq_1 <| And.intro @V.nbL.eq_2 <| And.intro @D.nb.eq_1 <| And.intro @D.nb.eq_2 <| And.intro @D.nb.eq_3 <| And.intro @D.nbL.eq_1 <| And.intro @D.nbL.eq_2 <| And.intro @Md.nb.eq_1 @Md.nb.eq_2
def obd := And.intro @argsP.eq_1 <| And.intro @argsP.eq_2 <| And.intro @argsP.eq_3 <| And.intro @argsP.eq_4 <| And.intro @argP.eq_1 <| And.intro @argP.eq_2 <| And.intro @argP.eq_3 <| And.intro @argP.eq_4 <| And.intro @argP.eq_5 <| And.intro @argP.eq_6 <| And.intro @argP.eq_7 <| And.intro @V.namesOf.eq_1 <| And.intro @V.namesOf.eq_2 <| And.intro @V.namesOf.eq_3 <| And.intro @V.namesOf.eq_4 <| And.intro @V.namesOfL.eq_1 <| And.intro @V.namesOfL.eq_2 <| And.intro @objsP.eq_1 <| And.intro @objsP.eq_2 <| And.intro @objsP.eq_3 <| And.intro @C.ren.eq_1 <| And.intro @C.ren.eq_2 <| And.intro @V.ren.eq_1 <| And.intro @V.ren.eq_2 <| And.intro @V.ren.eq_3 <| And.intro @V.ren.eq_4 <| And.intro @V.ren.eq_5 <| And.intro @V.ren.eq_6 <| And.intro @V.ren.eq_7 <| And.intro @V.renL.eq_1 <| And.intro @V.renL.eq_2 <| And.intro @V.renLL.eq_1 <| And.intro @V.renLL.eq_2 <| And.intro @List.mem_append.{0} <| And.intro @List.append_nil.{0} <| And.intro @List.mem_cons.{0} <| And.intro @or_false <| And.intro @or_true <| And.intro @true_or <| And.intro @renLL_dd <| And.intro @List.getD_cons_zero.{0} <| And.intro @List.getD_cons_succ.{0} @C.o.injEq
def sld := And.intro @slNL.eq_1 <| And.intro @slNL.eq_2 <| And.intro @slNL.eq_3 <| And.intro @slNL.eq_4 <| And.intro @C.inN.eq_1 <| And.intro @C.inN.eq_2 <| And.intro @V.inN.eq_1 <| And.intro @V.inN.eq_2 <| And.intro @V.inN.eq_3 <| And.intro @V.inN.eq_4 <| And.intro @V.inN.eq_5 <| And.intro @V.inN.eq_6 <| And.intro @V.inN.eq_7 <| And.intro @V.inNs.eq_1 <| And.intro @V.inNs.eq_2 <| And.intro @V.inNss.eq_1 <| And.intro @V.inNss.eq_2 <| And.intro @inNss_dd @inNs_map_d
section
variable {P : Program} {T n : Nat} {ops : Array Oper} {os : List Oper} {st : SL} {acc : List RW}
theorem stay_one {r s j : Nat} {row : List V} {v : V} (hst : lk st (.r r) = some (.o s [row])) (hj : row[j]? = some v) : Stay (lk st) [(r, s, j, v)] := by
  intro x hx
  rw [List.mem_singleton] at hx
  subst hx
  exact ⟨row, hst, hj⟩
theorem sw_drawS (r j : Nat) {i s : Nat} {l : List Oper} {Q : Exit → SL → Nat → Prop} {row : List V} {v : V} (hm : P.follows .mixedOrders = true) (hst : lk st (.r r) = some (.o s [row])) (hj : row[j]? = some v)
    (h : regS P T l.toArray [(r, s, j, v)] l st n [] fun st' n' acc => okDraw l.toArray acc = true ∧ Q .normal st' n') : sw P T (.region i l.toArray true) st n Q :=
  sw_of_aw (drawS_of hm h)
theorem regS_nil {r s j : Nat} {row : List V} {v : V} {K : SL → Nat → List RW → Prop} (hst : lk st (.r r) = some (.o s [row])) (hj : row[j]? = some v) (h : K st n acc) : regS P T ops [(r, s, j, v)] [] st n acc K := ⟨stay_one hst hj, h⟩
theorem regS_opK {r s j : Nat} {row : List V} {v : V} {K : SL → Nat → List RW → Prop} {o : Oper} {n' : Nat} (hst : lk st (.r r) = some (.o s [row])) (hj : row[j]? = some v) (hd : dstOk T o.dst) (hn : n + 64 = n')
    (h : ∀ k : Unit → SL → List Res → List Res → Prop, KOkU (fun u st' R W => regS P T ops [(r, s, j, v)] os st' n' (acc ++ [(R, W)]) K) k → (stepP P n ops o).wp st [] [] k) : regS P T ops [(r, s, j, v)] (o :: os) st n acc K := by
  subst hn
  exact ⟨stay_one hst hj, hd, .inl ⟨[], h _ ⟨fun _ _ _ _ x => x⟩⟩⟩
theorem regS_load {r s j : Nat} {row : List V} {v : V} {K : SL → Nat → List RW → Prop} {d a t : Nat} {ty : TypeId} {pos : String} {af : Array Edge} {n' : Nat} {tk : Ty} (hst : lk st (.r r) = some (.o s [row])) (hj : row[j]? = some v) (hd : dstOk T (some d)) (hn : n + 64 = n')
    (ha : lk st (.s a) = some (.v (.mp r s 0 j))) (ht : tyOf P t = some tk) (h1 : tk.size = 1) (h2 : tk.k.agg = false) (hv : v.lin = false)
    (h : regS P T ops [(r, s, j, v)] os ((.s d, some (.v v)) :: st) n' (acc ++ [([.s a], [.s d])]) K) :
    regS P T ops [(r, s, j, v)] ({ dst := some d, op := .load t (.tmp a), type := ty, pos := pos, after := af, guard := none } :: os) st n acc K := by
  subst hn
  refine ⟨stay_one hst hj, hd, .inr ⟨[.s a], d, v, ?_, h⟩⟩
  intro st2 g1 g2
  obtain ⟨row2, e1, e2⟩ := g2 (r, s, j, v) (by simp)
  dsimp only at e1 e2
  have ea := g1 (.s a) (by simp)
  rw [ha] at ea
  have hlt : j < row2.length := (List.getElem?_eq_some_iff.1 e2).1
  have hseg : (row2.drop j).take 1 = [v] := by
    rw [List.drop_eq_getElem_cons hlt]
    have := (List.getElem?_eq_some_iff.1 e2).2
    simp [this]
  refine ⟨[], ([.s a] ++ [.r r]) ++ [], ([] ++ []) ++ [.s d], ?_⟩
  show Run ((opP P n (.load t (.tmp a))).bind (putP (some d))) st2 () _ _ _
  refine Run.bind (a := v) (st' := st2) (R := [.s a] ++ [.r r]) (W := [] ++ []) (R' := []) (W' := [.s d]) ?_ ?_
  · show Run ((fetchP (.tmp a)).bind (loadP P t n)) st2 _ _ _ _
    refine Run.bind (a := V.mp r s 0 j) (st' := st2) (R := [.s a]) (W := []) (R' := [.r r]) (W' := []) ?_ ?_
    · refine Run.get (R := []) ea ?_
      simp only [V.lin, Bool.false_eq_true, if_false]
      exact .ret
    · simp only [loadP, ht, Prog.ofO, Prog.bind]
      refine Run.get (R := []) e1 ?_
      simp only [List.getElem?_cons_zero, Prog.ofO, Prog.bind, h1, hseg, V.linL, hv, Bool.or_false, Bool.false_eq_true, if_false, h2, asVal]
      exact .req ⟨trivial, by omega⟩ .ret
  · exact Run.set (W := []) .ret
end
end Go.Proofs.YtdlaplgofgklnaaGreat.L