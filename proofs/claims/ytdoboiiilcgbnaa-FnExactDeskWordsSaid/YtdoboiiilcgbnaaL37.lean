/- WHAT IS PROVED: calls that hand in all that is named. Conditions: none. -/
import Derived.Test.YtdoboiiilcgbnaaL36
namespace Go.Proofs.Ytdoboiiilcgbnaa.L
set_option linter.unusedVariables false
set_option linter.unusedSimpArgs false

theorem nat_lt_zero (n : Nat) : ((n : Int) < 0) = False := by simp
theorem nat_one : ((1 : Nat) : Int) = 1 := rfl
theorem nat_zero : ((0 : Nat) : Int) = 0 := rfl

theorem nbLL_map {α : Type} (f : α → List D) (h : ∀ m, D.nbL (f m) = true) : ∀ l : List α, D.nbLL (l.map f) = true
  | [] => rfl
  | m :: l => by simp only [List.map_cons, D.nbLL, h m, nbLL_map f h l, Bool.and_self]
theorem nb_rows {α : Type} {f : α → List D} (h : ∀ m, D.nbL (f m) = true) (s : Nat) (l : List α) : (V.d (.row .own s (l.map f))).nb = true := by
  simp only [V.nb, D.nb, Md.nb, nbLL_map f h l, Bool.and_self]

/-- A call that hands in, by name, all that is named. -/
theorem call_own {P : Program} {f : FuncId} {xs ys : List V} {objs objs' : List C} {v : V} {nm : Nat} {st : SL} {R W : List Res} {k : V → SL → List Res → List Res → Prop} (hc : Con P f ys objs v objs')
    (hnd : (V.namesOfL xs).Nodup)
    (h : (argsP (fun i => (V.namesOfL xs).getD i 0) [] ys xs).wp st R W fun _ st R W => (objsP (fun i => (V.namesOfL xs).getD i 0) (V.namesOfL xs) objs objs').wp st R W fun _ st R W => (nameAll nm (v.ren fun i => (V.namesOfL xs).getD i 0)).wp st R W k) : (callP P nm f xs).wp st R W k := by
  simp only [callP, Prog.wp]
  refine ⟨⟨ys, objs, v, objs', V.namesOfL xs, []⟩, ⟨hc, hnd, by simp, .inl rfl⟩, ?_⟩
  simp only [Prog.wp_bind]
  exact h

mutual
/-- an argument as it is lent. -/
def lendA (st : SL) : V → Option V
  | .d x => some (.d x)
  | .sl r s i n => match lk st (.r r) with
    | some (.o s' rs) => if s = s' ∧ i + n ≤ rs.length then (undd ((rs.drop i).take n)).map fun ds => .d (.row .bor s (D.lendLL ds)) else none
    | _ => none
  | .mp r s i j => match lk st (.r r) with
    | some (.o s' rs) => if s = s' then (rs[i]?).bind fun row => if j ≤ row.length then (undd.unddR (row.drop j)).map fun ds => .d (.ptr .bor (D.lendL ds)) else none else none
    | _ => none
  | .agg cs => (lendAL st cs).map .agg
  | _ => none
def lendAL (st : SL) : List V → Option (List V)
  | [] => some []
  | x :: xs => (lendA st x).bind fun y => (lendAL st xs).map (y :: ·)
end

mutual
theorem argP_auto {π : Nat → Nat} {L : List Nat} {st : SL} {W : List Res} : ∀ {x y : V} {R : List Res} {k : Unit → SL → List Res → List Res → Prop}, lendA st x = some y → (∀ r ∈ x.namesOf, r ∈ L) →
    k () st (x.namesOf.foldl (fun R r => .r r :: R) R) W → (argP π L y x).wp st R W k
  | .d x, y, R, k, h, hL, hk => by
    simp only [lendA, Option.some.injEq] at h
    subst h
    simp only [argP, Prog.wp, true_or, true_and]
    exact hk
  | .sl r s i n, y, R, k, h, hL, hk => by
    simp only [lendA] at h
    split at h
    · rename_i s' rs hst
      split at h
      · rename_i hc
        simp only [Option.map_eq_some_iff] at h
        obtain ⟨ds, hds, rfl⟩ := h
        simp only [argP, Prog.wp, hst, hds, Prog.ofO, Prog.bind]
        exact ⟨hL r (by simp [V.namesOf]), hc, trivial, hk⟩
      · cases h
    · cases h
  | .mp r s i j, y, R, k, h, hL, hk => by
    simp only [lendA] at h
    split at h
    · rename_i s' rs hst
      split at h
      · rename_i hc
        simp only [Option.bind_eq_some_iff] at h
        obtain ⟨row, hrow, h⟩ := h
        split at h
        · rename_i hj
          simp only [Option.map_eq_some_iff] at h
          obtain ⟨ds, hds, rfl⟩ := h
          simp only [argP, Prog.wp, hst, hds, hrow, Prog.ofO, Prog.bind]
          exact ⟨hL r (by simp [V.namesOf]), hc, hj, trivial, hk⟩
        · cases h
      · cases h
    · cases h
  | .agg cs, y, R, k, h, hL, hk => by
    simp only [lendA, Option.map_eq_some_iff] at h
    obtain ⟨ys, hys, rfl⟩ := h
    simp only [argP]
    exact argsP_auto hys (by simpa [V.namesOf] using hL) (by simpa [V.namesOf] using hk)
  | .clo f cs, y, R, k, h, hL, hk => by simp [lendA] at h
  | .tup cs, y, R, k, h, hL, hk => by simp [lendA] at h
  | .arr s xs, y, R, k, h, hL, hk => by simp [lendA] at h
theorem argsP_auto {π : Nat → Nat} {L : List Nat} {st : SL} {W : List Res} : ∀ {xs ys : List V} {R : List Res} {k : Unit → SL → List Res → List Res → Prop}, lendAL st xs = some ys → (∀ r ∈ V.namesOfL xs, r ∈ L) →
    k () st ((V.namesOfL xs).foldl (fun R r => .r r :: R) R) W → (argsP π L ys xs).wp st R W k
  | [], ys, R, k, h, hL, hk => by
    simp only [lendAL, Option.some.injEq] at h
    subst h
    simp only [argsP, Prog.wp]
    exact hk
  | x :: xs, ys, R, k, h, hL, hk => by
    simp only [lendAL, Option.bind_eq_some_iff, Option.map_eq_some_iff] at h
    obtain ⟨y, hy, ys', hys, rfl⟩ := h
    simp only [argsP, Prog.wp_bind]
    refine argP_auto hy (fun r hr => hL r (by simp [V.namesOfL, hr])) ?_
    refine argsP_auto hys (fun r hr => hL r (by simp [V.namesOfL, hr])) ?_
    simpa only [V.namesOfL, List.foldl_append] using hk
end

/-- A CALL that lends what is named: what it is lent as is read off the state. -/
theorem call_auto {P : Program} {f : FuncId} {xs ys : List V} {v : V} {nm : Nat} {st : SL} {R W : List Res} {k : V → SL → List Res → List Res → Prop} (hy : lendAL st xs = some ys) (hc : Con P f ys [] v []) (hv : v.nb = true)
    (h : (nameAll nm (v.ren fun i => ([] : List Nat).getD i 0)).wp st ((V.namesOfL xs).foldl (fun R r => .r r :: R) R) W k) : (callP P nm f xs).wp st R W k :=
  call_lend hc hv (argsP_auto hy (fun _ h => h) h)

theorem take_marks {α β : Type} (f : α → β) (g : Nat → α) (n : Nat) : (((List.range n).map g).map f).take n = ((List.range n).map g).map f := by
  rw [List.take_of_length_le (by simp)]

/-- A call that hands in one object by name. -/
theorem call_own1 {P : Program} {f : FuncId} {r s i n : Nat} {rest : List V} {o o' : C} {v : V} {nm : Nat} {st : SL} {R W : List Res} {k : V → SL → List Res → List Res → Prop} (ho : lk st (.r r) = some o) (hc : Con P f (.sl 0 s i n :: rest) [o] v [o'])
    (hd : V.isDataL rest = true) (h1 : o.ren (fun i => [r].getD i 0) = o) (h2 : o'.ren (fun i => [r].getD i 0) = o')
    (h : (nameAll nm (v.ren fun i => [r].getD i 0)).wp ((.r r, some o') :: st) (.r r :: R) (.r r :: W) k) : (callP P nm f (.sl r s i n :: rest)).wp st R W k := by
  simp only [callP, Prog.wp]
  refine ⟨⟨.sl 0 s i n :: rest, [o], v, [o'], [r], []⟩, ⟨hc, by simp, by simp, .inl rfl⟩, ?_⟩
  simp only [Prog.wp_bind, argsP, argP, CallW.π, V.ren, List.getD_cons_zero, Prog.wp]
  refine ⟨trivial, argsP_self hd ?_⟩
  simp only [objsP, Prog.wp, ho, Prog.bind]
  refine ⟨h1.symm, ?_⟩
  show (nameAll nm (v.ren fun i => [r].getD i 0)).wp ((.r r, some (o'.ren fun i => [r].getD i 0)) :: st) (.r r :: R) (.r r :: W) k
  rw [h2]
  exact h

end Go.Proofs.Ytdoboiiilcgbnaa.L
