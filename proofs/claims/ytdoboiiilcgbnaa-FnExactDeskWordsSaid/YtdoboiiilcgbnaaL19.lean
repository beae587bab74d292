/- WHAT IS PROVED: each abstract operation, a call too, tells what the model's does. Conditions: none. -/
import Derived.Test.YtdoboiiilcgbnaaL18
namespace Go.Proofs.Ytdoboiiilcgbnaa.L
set_option linter.unusedVariables false
set_option linter.unusedSimpArgs false

/-- What a call may be answered with. -/
structure CallW where
  args : List V
  objs : List C
  v : V
  objs' : List C
  pi : List Nat
  lent : List Nat

def CallW.π (c : CallW) (i : Nat) : Nat := c.pi.getD i 0

mutual
def argP (π : Nat → Nat) (L : List Nat) : V → V → Prog Unit
  | .agg ys, x => match x with
    | .agg xs => argsP π L ys xs
    | _ => .fail
  | .d y, x => match x with
    | .d x' => .req (x' = y ∨ (x'.lin = false ∧ y = x'.lend)) (.ret ())
    | .sl r s i n => .req (r ∈ L) (.get (.r r) fun c => match c with
      | .o s' rs => .req (s = s' ∧ i + n ≤ rs.length) ((Prog.ofO (undd ((rs.drop i).take n))).bind fun ds => .req (y = .row .bor s (D.lendLL ds)) (.ret ()))
      | _ => .fail)
    | .mp r s i j => .req (r ∈ L) (.get (.r r) fun c => match c with
      | .o s' rs => .req (s = s') ((Prog.ofO rs[i]?).bind fun row => .req (j ≤ row.length) ((Prog.ofO (undd.unddR (row.drop j))).bind fun ds => .req (y = .ptr .bor (D.lendL ds)) (.ret ())))
      | _ => .fail)
    | _ => .fail
  | y, x => .req (x = y.ren π) (.ret ())
def argsP (π : Nat → Nat) (L : List Nat) : List V → List V → Prog Unit
  | [], xs => match xs with
    | [] => .ret ()
    | _ => .fail
  | y :: ys, xs => match xs with
    | [] => .fail
    | x :: xs => (argP π L y x).bind fun _ => argsP π L ys xs
end

def objsP (π : Nat → Nat) : List Nat → List C → List C → Prog Unit
  | [], [], [] => .ret ()
  | p :: ps, o :: os, o' :: os' => .get (.r p) fun c => .req (c = o.ren π) (.set (.r p) (some (o'.ren π)) (objsP π ps os os'))
  | _, _, _ => .fail

def nameAll (nm : Nat) : V → Prog V
  | .tup cs => (outP nm cs 0).bind fun r => .req (cs.length ≤ 64) (.ret (.tup r))
  | .agg cs => (outP nm cs 0).bind fun r => .req (cs.length ≤ 64) (.ret (.agg r))
  | v => nameP nm v

def CallOk (P : Program) (f : FuncId) (c : CallW) : Prop :=
  Con P f c.args c.objs c.v c.objs' ∧ c.pi.Nodup ∧ (∀ r ∈ c.pi, r ∉ c.lent) ∧ (c.lent = [] ∨ (c.v.nb = true ∧ ∀ o ∈ c.objs', o.nb = true))

def callP (P : Program) (nm : Nat) (f : FuncId) (xs : List V) : Prog V :=
  .any (CallOk P f) fun c => (argsP c.π c.lent c.args xs).bind fun _ => (objsP c.π c.pi c.objs c.objs').bind fun _ => nameAll nm (c.v.ren c.π)

def opC (P : Program) (nm : Nat) : Op → Prog V
  | .call { callee := .value x, args := args, argTypes := _ } => (fetchP x).bind fun v => match v with
    | .clo f cs => (fetchAll args.toList).bind fun vs => callP P nm f (vs ++ cs)
    | _ => .fail
  | op => opP P nm op

section
variable {P : Program} {Γ : Ctx} {Z B : Zone} {ρ : Names} {F : Ix → List Nat} {N : Nat → Prop} {st st' : St} {ps : List V} {vals : List Value} {X : List Nat} {tm : Array Value} {w : World}

theorem fetchAll_sound {a : Act} : ∀ (xs : List Operand) (cs : List V) (st st1 : St) (R W : List Res) (F : Ix → List Nat) (ps : List V) (vals : List Value), Run (fetchAll xs) st cs st1 R W → SatF Γ Z B ρ F N st ps vals X a.tmps w →
    ∃ F', SatF Γ Z B ρ F' N st1 (cs ++ ps) (xs.map a.eval ++ vals) X a.tmps w ∧ cs.length = xs.length := by
  intro xs
  induction xs with
  | nil =>
    intro cs st st1 R W F ps vals hr h
    simp only [fetchAll] at hr
    cases hr
    exact ⟨F, h, rfl⟩
  | cons x xs ih =>
    intro cs st st1 R W F ps vals hr h
    simp only [fetchAll] at hr
    obtain ⟨v1, st2, R3, W3, R4, W4, r3, r4, -, -⟩ := hr.bind_inv
    obtain ⟨vs, st3, R5, W5, R6, W6, r5, r6, -, -⟩ := r4.bind_inv
    cases r6
    obtain ⟨F1, h1⟩ := fetch_sound r3 (rfl : a.tmps = a.tmps) h
    obtain ⟨F2, h2, hl⟩ := ih vs st2 st1 _ _ F1 _ _ r5 h1
    obtain ⟨F3, h3⟩ := SatF.front (pre := vs) (mid := [v1]) (va := xs.map a.eval) (vm := [a.eval x]) (by simpa using h2) (by simp [hl]) rfl
    exact ⟨F3, by simpa using h3, by simp [hl]⟩

mutual
theorem argP_run {π : Nat → Nat} {L : List Nat} : ∀ {y x : V} {u : Unit} {st st' : St} {R W : List Res}, Run (argP π L y x) st u st' R W →
    st' = st ∧ ∀ {xs ys : List V}, ArgOk st π (· ∈ L) xs ys → ArgOk st π (· ∈ L) (x :: xs) (y :: ys)
  | .agg ys, x, u, st, st', R, W, h => by
    unfold argP at h
    split at h
    · obtain ⟨e, k⟩ := argsP_run h
      exact ⟨e, fun ha => .agg k ha⟩
    · cases h
  | .d y, x, u, st, st', R, W, h => by
    unfold argP at h
    split at h
    · cases h with
      | req g h =>
        cases h
        refine ⟨rfl, fun ha => ?_⟩
        rcases g with rfl | ⟨g1, rfl⟩
        · exact ArgOk.ren (y := .d _) ha
        · exact .d g1 ha
    · cases h with
      | req g h =>
        cases h with
        | @get _ _ _ _ c _ _ _ c1 c2 =>
          dsimp only at c2
          split at c2
          · cases c2 with
            | req g1 c2 =>
              obtain ⟨rfl, g1⟩ := g1
              obtain ⟨ds, st1, R1, W1, R2, W2, r1, r2, -, -⟩ := c2.bind_inv
              obtain ⟨g2, rfl⟩ := ofO_run r1
              cases r2 with
              | req g3 r2 =>
                cases r2
                subst g3
                exact ⟨rfl, fun ha => .sl g c1 g1 g2 ha⟩
          · cases c2
    · cases h with
      | req g h =>
        cases h with
        | @get _ _ _ _ c _ _ _ c1 c2 =>
          dsimp only at c2
          split at c2
          · cases c2 with
            | req g1 c2 =>
              subst g1
              obtain ⟨row, st1, R1, W1, R2, W2, r1, r2, -, -⟩ := c2.bind_inv
              obtain ⟨g2, rfl⟩ := ofO_run r1
              cases r2 with
              | req g3 r2 =>
                obtain ⟨ds, st2, R3, W3, R4, W4, r3, r4, -, -⟩ := r2.bind_inv
                obtain ⟨g4, rfl⟩ := ofO_run r3
                cases r4 with
                | req g5 r4 =>
                  cases r4
                  subst g5
                  exact ⟨rfl, fun ha => .mp g c1 g2 g3 g4 ha⟩
          · cases c2
    · cases h
  | .sl r s i n, x, u, st, st', R, W, h => by
    unfold argP at h
    cases h with
    | req g h => cases h; subst g; exact ⟨rfl, fun ha => .ren ha⟩
  | .mp r s i j, x, u, st, st', R, W, h => by
    unfold argP at h
    cases h with
    | req g h => cases h; subst g; exact ⟨rfl, fun ha => .ren ha⟩
  | .clo f cs, x, u, st, st', R, W, h => by
    unfold argP at h
    cases h with
    | req g h => cases h; subst g; exact ⟨rfl, fun ha => .ren ha⟩
  | .tup cs, x, u, st, st', R, W, h => by
    unfold argP at h
    cases h with
    | req g h => cases h; subst g; exact ⟨rfl, fun ha => .ren ha⟩
  | .arr s xs, x, u, st, st', R, W, h => by
    unfold argP at h
    cases h with
    | req g h => cases h; subst g; exact ⟨rfl, fun ha => .ren ha⟩
theorem argsP_run {π : Nat → Nat} {L : List Nat} : ∀ {ys xs : List V} {u : Unit} {st st' : St} {R W : List Res}, Run (argsP π L ys xs) st u st' R W → st' = st ∧ ArgOk st π (· ∈ L) xs ys
  | [], xs, u, st, st', R, W, h => by
    unfold argsP at h
    split at h
    · cases h; exact ⟨rfl, .nil⟩
    · cases h
  | y :: ys, xs, u, st, st', R, W, h => by
    unfold argsP at h
    split at h
    · cases h
    · obtain ⟨u1, st1, R1, W1, R2, W2, r1, r2, -, -⟩ := h.bind_inv
      obtain ⟨e1, k1⟩ := argP_run r1
      subst e1
      obtain ⟨e2, k2⟩ := argsP_run r2
      exact ⟨e2, k1 k2⟩
end

theorem objsP_run {π : Nat → Nat} : ∀ {ps : List Nat} {os os' : List C} {u : Unit} {st st' : St} {R W : List Res}, Run (objsP π ps os os') st u st' R W → ps.Nodup →
    os.length = ps.length ∧ os'.length = ps.length ∧ (∀ (i : Nat) (p : Nat) (c : C), ps[i]? = some p → os[i]? = some c → st (.r p) = some (c.ren π)) ∧
    (∀ (i : Nat) (p : Nat) (c : C), ps[i]? = some p → os'[i]? = some c → st' (.r p) = some (c.ren π)) ∧ (∀ x, (∀ p ∈ ps, x ≠ .r p) → st' x = st x)
  | [], os, os', u, st, st', R, W, h, hn => by
    cases os <;> cases os' <;> simp only [objsP] at h <;> cases h
    exact ⟨rfl, rfl, by simp, by simp, fun _ _ => rfl⟩
  | p :: ps, os, os', u, st, st', R, W, h, hn => by
    cases os with
    | nil => cases os' <;> simp only [objsP] at h <;> cases h
    | cons o os =>
      cases os' with
      | nil => simp only [objsP] at h; cases h
      | cons o' os' =>
        simp only [objsP] at h
        cases h with
        | get c1 c2 =>
          cases c2 with
          | req g c2 =>
            cases c2 with
            | set c2 =>
              rw [List.nodup_cons] at hn
              obtain ⟨l1, l2, k1, k2, k3⟩ := objsP_run c2 hn.2
              refine ⟨by simp [l1], by simp [l2], ?_, ?_, ?_⟩
              · intro i q c hp hc
                cases i with
                | zero =>
                  simp only [List.getElem?_cons_zero, Option.some.injEq] at hp hc
                  subst hp; subst hc
                  rw [c1, g]
                | succ i =>
                  simp only [List.getElem?_cons_succ] at hp hc
                  have := k1 i q c hp hc
                  have hne : q ≠ p := fun e => hn.1 (e ▸ List.mem_of_getElem? hp)
                  rwa [upd, if_neg (by simpa using hne)] at this
              · intro i q c hp hc
                cases i with
                | zero =>
                  simp only [List.getElem?_cons_zero, Option.some.injEq] at hp hc
                  subst hp; subst hc
                  rw [k3 (.r p) (fun q hq e => hn.1 (by simp only [Res.r.injEq] at e; exact e ▸ hq))]
                  simp [upd]
                | succ i =>
                  simp only [List.getElem?_cons_succ] at hp hc
                  exact k2 i q c hp hc
              · intro x hx
                rw [k3 x (fun q hq => hx q (by simp [hq])), upd, if_neg (hx p (by simp))]

theorem nameAll_sound {nm : Nat} {v v' : V} {val : Value} {R W : List Res} (hr : Run (nameAll nm v) st v' st' R W) (hf : ∀ r, nm ≤ r → r < nm + 64 → ¬ N r)
    (h : SatF Γ Z B ρ F N st (v :: ps) (val :: vals) X tm w) : ∃ ρ' F', SatF Γ Z B ρ' F' (Nx nm N) st' (v' :: ps) (val :: vals) X tm w := by
  unfold nameAll at hr
  split at hr
  · rename_i cs
    obtain ⟨r, st1, R1, W1, R2, W2, r1, r2, -, -⟩ := hr.bind_inv
    cases r2 with
    | req g r2 =>
      cases r2
      obtain ⟨G, H, e, g1, g2, n1, n2⟩ := h.headF
      cases g1 with
      | tup t1 t2 =>
        cases t2
        rename_i us FF
        obtain ⟨F1, _, h1⟩ := h.rehand (ps' := cs ++ ps) (vals' := us ++ vals) (X' := X) (Fp' := FF ++ H) (RelVs.append t1 g2) (by rw [inNs_append]; exact ⟨n1, n2⟩) (by rw [e]; simp) (by rw [e]; simp)
        obtain ⟨ρ', F2, _, h2⟩ := out_sound (pre := []) r1 (fun k k1 k2 => hf _ (by omega) (by omega)) h1
        have hl : us.length = r.length := by
          have := h2.lenPend
          have := g2.length
          simp at *
          omega
        obtain ⟨Fa, Fm, Fc, e0, q1, q2, q3, m1, m2, m3⟩ := SatF.partsAt (pre := []) (mid := r) (ps := ps) (va := []) (vm := us) (vc := vals) h2 rfl hl
        cases q1
        obtain ⟨F3, _, h3⟩ := h2.rehand (ps' := .tup r :: ps) (vals' := .tuple us.toArray :: vals) (X' := X) (Fp' := Fm ++ Fc) (RelVs.tup q2 q3) ⟨m2, m3⟩ (by rw [e0]; simp) (by rw [e0]; simp)
        exact ⟨ρ', F3, h3.weakN (fun r hr => hr.imp id (fun hh => by omega))⟩
  · rename_i cs
    obtain ⟨r, st1, R1, W1, R2, W2, r1, r2, -, -⟩ := hr.bind_inv
    cases r2 with
    | req g r2 =>
      cases r2
      obtain ⟨G, H, e, g1, g2, n1, n2⟩ := h.headF
      cases g1 with
      | agg t1 t0 t2 =>
        cases t2
        rename_i us FF
        obtain ⟨F1, _, h1⟩ := h.rehand (ps' := cs ++ ps) (vals' := us ++ vals) (X' := X) (Fp' := FF ++ H) (RelVs.append t1 g2) (by rw [inNs_append]; exact ⟨n1, n2⟩) (by rw [e]; simp) (by rw [e]; simp)
        obtain ⟨ρ', F2, _, h2⟩ := out_sound (pre := []) r1 (fun k k1 k2 => hf _ (by omega) (by omega)) h1
        have hl : us.length = r.length := by
          have := h2.lenPend
          have := g2.length
          simp at *
          omega
        obtain ⟨Fa, Fm, Fc, e0, q1, q2, q3, m1, m2, m3⟩ := SatF.partsAt (pre := []) (mid := r) (ps := ps) (va := []) (vm := us) (vc := vals) h2 rfl hl
        cases q1
        obtain ⟨F3, _, h3⟩ := h2.rehand (ps' := .agg r :: ps) (vals' := .agg us.toArray :: vals) (X' := X) (Fp' := Fm ++ Fc) (RelVs.agg q2 t0 q3) ⟨m2, m3⟩ (by rw [e0]; simp) (by rw [e0]; simp)
        exact ⟨ρ', F3, h3.weakN (fun r hr => hr.imp id (fun hh => by omega))⟩
  · obtain ⟨ρ', F1, _, h1⟩ := name_sound (pre := []) hr (hf nm (by omega) (by omega)) h
    exact ⟨ρ', F1, h1.weakN Nx_one⟩

theorem call_ok {o : Oper} {nm : Nat} {v : V} {R W : List Res} {x : Operand} {args : Array Operand} {ts : Array TypeId} (ho : o.op = .call { callee := .value x, args := args, argTypes := ts })
    (hr : Run ((fetchP x).bind fun v => match v with
    | .clo f cs => (fetchAll args.toList).bind fun vs => callP P nm f (vs ++ cs)
    | _ => .fail) st v st' R W) : OpOk P o nm st v st' := by
  rintro Γ N a w ⟨Z, B, ρ, F, h⟩ hf K Q hk
  obtain ⟨va, st1, R1, W1, R2, W2, r1, r2, -, -⟩ := hr.bind_inv
  obtain ⟨F1, h1⟩ := fetch_sound r1 (rfl : a.tmps = a.tmps) h
  split at r2
  · rename_i f cs
    obtain ⟨vs, st2, R3, W3, R4, W4, r3, r4, -, -⟩ := r2.bind_inv
    obtain ⟨F2, h2, hl2⟩ := fetchAll_sound _ _ _ _ _ _ F1 _ _ r3 h1
    unfold callP at r4
    cases r4 with
    | any g r5 =>
      rename_i c
      obtain ⟨u1, st3, R5, W5, R6, W6, r6, r7, -, -⟩ := r5.bind_inv
      obtain ⟨u2, st4, R7, W7, R8, W8, r8, r9, -, -⟩ := r7.bind_inv
      obtain ⟨hc, hnd, hap, hnb⟩ := g
      obtain ⟨e, ha⟩ := argsP_run r6
      subst e
      obtain ⟨l1, l2, k1, k2, k3⟩ := objsP_run r8 hnd
      -- the closure's captured values
      obtain ⟨Fa, Fm, Fc, e0, q1, q2, q3, n1, n2, n3⟩ := SatF.partsAt (pre := vs) (mid := [.clo f cs]) (ps := []) (va := args.toList.map a.eval) (vm := [a.eval x]) (vc := []) (by simpa using h2) (by simp [hl2]) rfl
      generalize hx : a.eval x = val at q2
      cases q2 with
      | clo t1 t2 =>
        cases t2
        rename_i us FF
        cases q3
        obtain ⟨F3, _, h3⟩ := h2.rehand (ps' := (vs ++ cs) ++ []) (vals' := (args.toList.map a.eval ++ us) ++ []) (X' := []) (Fp' := (Fa ++ FF) ++ []) (RelVs.append (RelVs.append q1 t1) .nil)
          (by rw [inNs_append, inNs_append]; exact ⟨⟨n1, n2.1⟩, trivial⟩) (by rw [e0]; simp) (by rw [e0]; simp)
        have hpi : ∀ i, i < c.objs.length → c.pi[i]? = some (c.π i) := fun i hi => by
          have : i < c.pi.length := by omega
          simp [CallW.π, List.getD, this]
        have hcall := call_core (st' := st4) (π := c.π) (L := (· ∈ c.lent)) hc h3 (by have := h3.lenPend; simpa using this.symm) ha
          (fun i o' ho' => k1 i _ o' (hpi i (List.getElem?_eq_some_iff.1 ho').1) ho')
          (fun i j hi hj e => by
            have h1 := hpi i hi
            have h2 := hpi j hj
            rw [e] at h1
            obtain ⟨a1, a2⟩ := List.getElem?_eq_some_iff.1 h1
            obtain ⟨b1, b2⟩ := List.getElem?_eq_some_iff.1 h2
            have hp := List.pairwise_iff_getElem.1 hnd
            rcases Nat.lt_trichotomy i j with hlt | rfl | hlt
            · exact absurd (a2.trans b2.symm) (hp i j a1 b1 hlt)
            · rfl
            · exact absurd (b2.trans a2.symm) (hp j i b1 a1 hlt))
          (fun i hi => hap _ (List.mem_of_getElem? (hpi i hi)))
          (hnb.imp (fun e r => by rw [e]; simp) id)
          (fun i o' ho' => k2 i _ o' (hpi i (by have := (List.getElem?_eq_some_iff.1 ho').1; rw [hc.len] at this; exact this)) ho')
          (fun x hx => k3 x (fun p hp => by
            obtain ⟨i, hi, rfl⟩ := List.mem_iff_getElem.1 hp
            have hi' : i < c.objs.length := by omega
            have := hpi i hi'
            rw [List.getElem?_eq_getElem hi] at this
            simp only [Option.some.injEq] at this
            rw [this]
            exact hx i hi'))
        unfold Oper.wp
        have hrun : (execOp a.eval o).run P w = .ok (.enter f (args.toList.map a.eval ++ us).toArray) w := by
          have e1 : args.map a.eval ++ us.toArray = (args.toList.map a.eval ++ us).toArray := by apply Array.ext'; simp
          simp [execOp, ho, resolve, hx, Deferred.ofValue, invoke, e1, hc.enters]
        rw [hrun]
        refine Calls.mono hcall ?_
        rintro e w' ⟨val, Z', B', F', rfl, h4⟩
        obtain ⟨ρ', F5, h5⟩ := nameAll_sound r9 hf h4
        exact hk _ _ h5.satP
  · cases r2

end
end Go.Proofs.Ytdoboiiilcgbnaa.L
