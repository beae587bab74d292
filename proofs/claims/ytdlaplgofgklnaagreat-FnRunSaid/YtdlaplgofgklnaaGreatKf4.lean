/- WHAT IS PROVED: an abstract walker over the model, what some functions of the program answer, and laws of these answers. Conditions: none. -/
import Derived.Test.YtdlaplgofgklnaaGreatKf3
namespace Go.Proofs.YtdlaplgofgklnaaGreat.L
set_option linter.unusedVariables false
set_option linter.unusedSimpArgs false
section
variable {P : Program} {T : Nat} {st : SL} {n : Nat} {ops : Array Oper} {os : List Oper} {K : SL → Nat → Prop} {Q : Exit → SL → Nat → Prop}
theorem rskip {dst : Option Tmp} {op : Op} {ty : TypeId} {pos : String} {af : Array Edge} {j d : Nat} {want : Bool} (hd : dstOk T dst := by simp only [dstOk, Nat.reduceLT]) (hj : (ops[j]?).bind (·.dst) = some d := by with_unfolding_all rfl)
    (hs : lk st (.s d) = some (.v (.tup [])) := by simp only [putSt, lk, lkb, reduceCtorEq, Nat.reduceEqDiff]) (h2 : regW P T ops os (putSt dst (.tup []) st) n K) :
    regW P T ops ({ dst := dst, op := op, type := ty, pos := pos, after := af, guard := some (j, want) } :: os) st n K := regW_skip hd hj hs h2
theorem ryes {dst : Option Tmp} {op : Op} {ty : TypeId} {pos : String} {af : Array Edge} {j d : Nat} {want : Bool} (hd : dstOk T dst := by simp only [dstOk, Nat.reduceLT]) (hj : (ops[j]?).bind (·.dst) = some d := by with_unfolding_all rfl)
    (hs : lk st (.s d) = some (.v (.d (.p (.bool want)))) := by simp only [putSt, lk, lkb, reduceCtorEq, Nat.reduceEqDiff])
    (h : regW P T ops ({ dst := dst, op := op, type := ty, pos := pos, after := af, guard := none } :: os) ((.s d, some (.v (.d (.p (.bool want))))) :: st) n K) :
    regW P T ops ({ dst := dst, op := op, type := ty, pos := pos, after := af, guard := some (j, want) } :: os) st n K := regW_yesN hd hj hs h
theorem rno {dst : Option Tmp} {op : Op} {ty : TypeId} {pos : String} {af : Array Edge} {j d : Nat} {want : Bool} (hd : dstOk T dst := by simp only [dstOk, Nat.reduceLT]) (hj : (ops[j]?).bind (·.dst) = some d := by with_unfolding_all rfl)
    (hs : lk st (.s d) = some (.v (.d (.p (.bool (!want))))) := by simp only [putSt, lk, lkb, reduceCtorEq, Nat.reduceEqDiff, Bool.not_true, Bool.not_false]) (h : regW P T ops os (putSt dst (.tup []) ((.s d, some (.v (.d (.p (.bool (!want)))))) :: st)) n K) :
    regW P T ops ({ dst := dst, op := op, type := ty, pos := pos, after := af, guard := some (j, want) } :: os) st n K := regW_no hd hj hs h
theorem ropD {K : SL → Nat → List RW → Prop} {acc : List RW} {o : Oper} {n' : Nat} (hd : dstOk T o.dst := by simp only [dstOk, Nat.reduceLT]) (hn : n + 64 = n' := by (simp only [Nat.reduceAdd]; with_unfolding_all rfl))
    (h : ∀ k : Unit → SL → List Res → List Res → Prop, KOkU (fun u st' R W => regD P T ops os st' n' (acc ++ [(R, W)]) K) k → (stepP P n ops o).wp st [] [] k) : regD P T ops (o :: os) st n acc K := regD_opK hd hn h
theorem ropW {dst : Option Tmp} {op : Op} {ty : TypeId} {pos : String} {af : Array Edge} {n' : Nat} (hd : dstOk T dst := by simp only [dstOk, Nat.reduceLT]) (hn : n + 64 = n' := by (simp only [Nat.reduceAdd]; with_unfolding_all rfl))
    (h : ∀ k : V → SL → List Res → List Res → Prop, KOk (fun v st' R W => regW P T ops os (putSt dst v st') n' K) k → (opC P n op).wp st [] [] k) :
    regW P T ops ({ dst := dst, op := op, type := ty, pos := pos, after := af, guard := none } :: os) st n K := regW_opK hd hn h
end
theorem csw {P : Program} {f : FuncId} {fn : Func} {c : Code} {args : List V} {objs objs' : List C} {v : V} (hf : P.funcs[f]? = some fn)
    (henter : ∀ (a : Array Value) (w : World), (callFunc f a).run P w = .ok (.enter f a) w) (hT : args.length ≤ fn.ntmps) (hb : fn.body = some c := by with_unfolding_all rfl)
    (inA : V.inNs (· < objs.length) args := by simp [V.inNs, V.inN]) (inO : ∀ c ∈ objs, c.inN (· < objs.length) := by simp [C.inN, V.inNss, V.inNs, V.inN, inNss_dd])
    (inV : v.inN (· < objs.length) := by simp [V.inNs, V.inN]) (inO' : ∀ c ∈ objs', c.inN (· < objs.length) := by simp [C.inN, V.inNss, V.inNs, V.inN, inNss_dd]) (len : objs'.length = objs.length := by rfl)
    (h : sw P fn.ntmps c (entryS args 0 (entryO objs 0)) objs.length (retQ P fn.results.toList v objs')) : Con P f args objs v objs' := con_of_sw hf hb henter hT inA inO inV inO' len h
theorem set_self {α : Type} {l : List α} {i : Nat} {m : α} (h : l[i]? = some m) : l.set i m = l := by
  obtain ⟨h1, h2⟩ := List.getElem?_eq_some_iff.1 h
  rw [← h2, List.set_getElem_self]
theorem call_objE {P : Program} {f : FuncId} {xs ys : List V} {objs objs' : List C} {v : V} {nm : Nat} {st : SL} {R W : List Res} {k : V → SL → List Res → List Res → Prop} (pi : List Nat) (q : Nat) {c : C} (hst : lk st (.r q) = some c) (hc : Con P f ys (c :: objs) v objs')
    (hnd : pi.Nodup) (hnb : (V.namesOfL xs).filter (fun r => !pi.contains r) = [] ∨ (v.nb = true ∧ ∀ o ∈ objs', o.nb = true))
    (h : (argsP (fun i => pi.getD i 0) ((V.namesOfL xs).filter fun r => !pi.contains r) ys xs).wp st R W fun _ st R W => (objsP (fun i => pi.getD i 0) pi (c :: objs) objs').wp st R W fun _ st R W => (nameAll nm (v.ren fun i => pi.getD i 0)).wp st R W k) : (callP P nm f xs).wp st R W k := call_obj pi hc hnd hnb h
inductive ConvQ : D → D → Prop
  | same {x : D} : ConvQ x x
  | ptr {m : Md} {xs ys : List D} : All2 ConvD xs ys → ConvQ (.ptr m xs) (.ptr m ys)
theorem RelDs.convQ {Z B : Zone} {w : World} {x y : D} {vs : List Value} {F : List Nat} (h : RelDs Z B w [x] vs F) (hc : ConvQ x y) : RelDs Z B w [y] vs F := by
  cases hc with
  | same => exact h
  | ptr hx =>
    cases h with
    | ptr h1 h2 h3 h4 h5 h6 => exact .ptr (h1.conv hx) h2 h3 (by rw [← all2_length hx]; exact h4) h5 h6
theorem con_conv {P : Program} {f : FuncId} {x y : D} {rest : List V} {objs : List C} {v : V} {objs' : List C} (hq : ConvQ x y) (h : Con P f (.d y :: rest) objs v objs') : Con P f (.d x :: rest) objs v objs' := by
  refine ⟨h.enters, ⟨trivial, h.inA.2⟩, h.inO, h.inV, h.inO', h.len, fun Γ vals w hk hsat => h.call Γ vals w hk ?_⟩
  obtain ⟨Z, B, ρ, F, hs⟩ := hsat
  obtain ⟨⟨Fp, e1, e2⟩, e3⟩ := hs.pend
  refine ⟨Z, B, ρ, F, hs.slot, hs.obj, ⟨⟨Fp, e1, ?_⟩, ⟨trivial, e3.2⟩⟩, hs.dead, hs.nodup, hs.disj, hs.own, hs.zB, hs.zone, hs.zoneOld, hs.zOld, hs.zZ, hs.zBB, hs.frame, hs.grow, hs.rho, hs.kN⟩
  cases e2 with
  | d h1 h2 => exact .d (h1.convQ hq) h2
theorem con_give {P : Program} {f : FuncId} {x y : D} {rest : List V} {v : V} {objs' : List C} (hq : ConvQ x.lend y) (h : Con P f (.d y :: rest) [] v objs') : Con P f (.d x :: rest) [] v objs' := con_own (con_conv hq h)
theorem con_nils {P : Program} {f : FuncId} {m : Md} (hown : m ≠ .own) {s : Nat} {v : V} {rest : List V} {objs objs' : List C} (h1 : Con P f (.d (.p (.slice none 0 0)) :: rest) objs v objs') (h2 : ∀ (a : Addr) (c : Nat), Con P f (.d (.p (.slice (some a) 0 c)) :: rest) objs v objs') : Con P f (.d (.row m s []) :: rest) objs v objs' := by
  refine ⟨h1.enters, ⟨trivial, h1.inA.2⟩, h1.inO, h1.inV, h1.inO', h1.len, fun Γ vals w hk hsat => ?_⟩
  obtain ⟨Z, B, ρ, F, hs⟩ := hsat
  obtain ⟨⟨Fp, e1, e2⟩, e3⟩ := hs.pend
  cases e2 with
  | @d _ val Fd _ vs' G d1 d2 =>
    have key : ∀ (A : Option Addr) (c : Nat), val = .slice A 0 c → Fd = [] → SatP Γ (· < objs.length) (stO objs) (.d (.p (.slice A 0 c)) :: rest) (val :: vs') #[] w := by
      intro A c eA eF
      subst eA eF
      exact ⟨Z, B, ρ, F, hs.slot, hs.obj, ⟨⟨[] ++ G, e1, .d (.p rfl .nil) d2⟩, ⟨trivial, e3.2⟩⟩, hs.dead, hs.nodup, hs.disj, hs.own, hs.zB, hs.zone, hs.zoneOld, hs.zOld, hs.zZ, hs.zBB, hs.frame, hs.grow, hs.rho, hs.kN⟩
    cases d1 with
    | @none _ _ A _ _ _ q =>
      cases q
      cases A with
      | none => exact h1.call Γ _ w hk (key none 0 rfl rfl)
      | some a => exact (h2 a 0).call Γ _ w hk (key (some a) 0 rfl rfl)
    | @row _ _ b o c _ us FF _ _ _ q1 q2 q3 q4 q5 q6 q7 q8 =>
      cases q8
      cases q1
      have hm : m.foot b = [] := by cases m with
        | own => exact absurd rfl hown
        | frz => rfl
        | bor => rfl
      exact (h2 _ c).call Γ _ w hk (key _ c rfl (by rw [hm]; rfl))
theorem cond_split {β : Type} {b : Bool} {x y : Option β} {r : β} {G : Prop} (g1 : b = true → Yes x r → G) (g2 : b = false → Yes y r → G) : Yes (cond b x y) r → G := by
  intro h
  cases b with
  | true => exact g1 rfl h
  | false => exact g2 rfl h
theorem flat_split {α : Type} {rows : List (List α)} {i j : Nat} {row : List α} {v : α} (hi : rows[i]? = some row) (hj : row[j]? = some v) (d : α) :
    rows.flatten = ((rows.take i).flatten ++ row.take j) ++ v :: (row.drop (j + 1) ++ (rows.drop (i + 1)).flatten) ∧
    (rows.set i (row.set j d)).flatten = ((rows.take i).flatten ++ row.take j) ++ d :: (row.drop (j + 1) ++ (rows.drop (i + 1)).flatten) := by
  obtain ⟨a1, a2, -⟩ := row_split hi (row.set j d)
  obtain ⟨b1, b2, -⟩ := row_split hj d
  constructor
  · conv => lhs; rw [a1, b1]
    simp
  · rw [a2, b2]
    simp
theorem gh_nameElem (r i j : Nat) {st : SL} {n s s2 : Nat} {rows : List (List V)} {row : List V} {xs : List (List D)} {K : SL → Nat → Prop} (hst : lk st (.r r) = some (.o s rows)) (hi : rows[i]? = some row) (hj : row[j]? = some (.d (.row .own s2 xs)))
    (h : Gh ((.r r, some (.o s (rows.set i (row.set j (.sl n s2 0 xs.length))))) :: (.r n, some (.o s2 (dd xs))) :: st) (n + 64) K) : Gh st n K := by
  refine gh_trans fun Γ tm w hsat => ⟨_, n + 64, by omega, h, ?_⟩
  obtain ⟨Z, B, ρ, F, hs⟩ := hsat
  obtain ⟨hN, hO, hin⟩ := hs.obj r _ hst
  obtain ⟨e1, e2⟩ := flat_split hi hj (V.sl n s2 0 xs.length)
  have hrn : r ≠ n := fun e => by subst e; exact absurd hN (Nat.lt_irrefl _)
  generalize hG : F (some (.r r)) = G at hO
  cases hO with
  | none => simp at hi
  | @some _ b o _ us FG hρ hrel hone hrange hblk huni =>
    have hinr : V.inNs (· < n) rows.flatten := inNss_flatten hin
    obtain ⟨F1, f1, h1⟩ := hs.regroup (r := r) (ps' := rows.flatten ++ []) (vals' := us ++ []) (X' := [b]) (Fp' := FG ++ []) hG (RelVs.append hrel .nil)
      (by rw [inNs_append]; exact ⟨hinr, trivial⟩)
      (by intro hh; rw [List.nodup_iff_count] at hh ⊢; intro t; have hh := hh t; simp only [List.count_append, List.count_cons, List.count_nil] at hh ⊢; omega)
      (by intro x hx; simp only [List.mem_append, List.mem_cons] at hx ⊢; grind)
    rw [e1] at h1
    have r1 : Run (nameP n (.d (.row .own s2 xs))) (upd (lk st) (.r r) none) (.sl n s2 0 xs.length) (upd (upd (lk st) (.r r) none) (.r n) (some (.o s2 (dd xs)))) [] [.r n] := .set .ret
    obtain ⟨ρ2, F2, hρ2, h2⟩ := name_sound (N := (· < n)) (pre := (rows.take i).flatten ++ row.take j) (ps := row.drop (j + 1) ++ (rows.drop (i + 1)).flatten) r1 (Nat.lt_irrefl n) (by simpa using h1)
    rw [← e2] at h2
    have hul : us.length = (rows.set i (row.set j (.sl n s2 0 xs.length))).flatten.length := by
      have := hrel.length
      rw [e1] at this
      rw [e2]
      simp only [List.length_append, List.length_cons] at this ⊢
      omega
    have hrow : row.length = s := huni row (List.mem_of_getElem? hi)
    obtain ⟨F3, h3⟩ := SatF.close (r := r) (s := s) (o := o) (xs := rows.set i (row.set j (.sl n s2 0 xs.length))) (us := us) (vc := []) (ps := []) (X := []) (by simpa using h2)
      (by simpa using hul) (Or.inl hN) (by simp [upd, hrn]) ((hρ2 r hrn).trans hρ) hone hrange (by simpa using hblk) (by
        intro x hx
        rcases List.mem_or_eq_of_mem_set hx with hx | rfl
        · exact huni x hx
        · rw [List.length_set]; exact hrow)
      (by
        refine inNss_iff.2 fun x hx => ?_
        have hin2 := inNss_iff.1 hin
        rcases List.mem_or_eq_of_mem_set hx with hx | rfl
        · exact V.inNs_mono (fun _ h => .inl h) _ (hin2 x hx)
        · obtain ⟨b1, b2, -⟩ := row_split hj (V.sl n s2 0 xs.length)
          have hr := hin2 row (List.mem_of_getElem? hi)
          rw [b2, inNs_append]
          rw [b1, inNs_append] at hr
          exact ⟨V.inNs_mono (fun _ h => .inl h) _ hr.1, .inr rfl, V.inNs_mono (fun _ h => .inl h) _ hr.2.2⟩)
    refine ⟨Z, B, ρ2, F3, ?_⟩
    rw [lk_cons, lk_cons]
    have e3 : upd (upd (upd (lk st) (.r r) none) (.r n) (some (.o s2 (dd xs)))) (.r r) (some (.o s (rows.set i (row.set j (.sl n s2 0 xs.length))))) = upd (upd (lk st) (.r n) (some (.o s2 (dd xs)))) (.r r) (some (.o s (rows.set i (row.set j (.sl n s2 0 xs.length))))) := by
      funext x
      simp only [upd]
      split
      · rfl
      · split <;> rfl
    rw [← e3]
    exact h3.weakN (fun q hq => by rcases hq with hq | hq <;> omega)
theorem gh_nameRowL (r : Nat) {α : Type} {f : α → List D} {l : List α} {m : α} {i : Nat} {st : SL} {n s s2 : Nat} {xs : List (List D)} {K : SL → Nat → Prop} (hst : lk st (.r r) = some (.o s (dd (Rw f l)))) (hm : l[i]? = some m) (hf : f m = [.row .own s2 xs])
    (h : Gh ((.r r, some (.o s ((dd (Rw f l)).set i [.sl n s2 0 xs.length]))) :: (.r n, some (.o s2 (dd xs))) :: st) (n + 64) K) : Gh st n K := by
  refine gh_nameElem r i 0 (row := [.d (.row .own s2 xs)]) hst ?_ rfl h
  rw [dd_get, Rw_get, hm]
  simp [hf]
theorem inNss_ddset {N : Nat → Prop} {ds : List (List D)} {i : Nat} {row : List V} (h : V.inNs N row) : V.inNss N ((dd ds).set i row) := by
  refine inNss_iff.2 fun x hx => ?_
  rcases List.mem_or_eq_of_mem_set hx with hx | rfl
  · exact inNss_iff.1 (inNss_dd (N := N) ds) x hx
  · exact h
theorem renLL_ddset (π : Nat → Nat) (ds : List (List D)) (i : Nat) (row : List V) : V.renLL π ((dd ds).set i row) = (dd ds).set i (V.renL π row) := by
  rw [V.renLL_map, List.map_set, ← V.renLL_map, renLL_dd, V.renL_map]
theorem call_give {P : Program} {f : FuncId} {x y : D} {rest : List V} {v : V} {nm : Nat} {st : SL} {R W : List Res} {k : V → SL → List Res → List Res → Prop} (hc : Con P f (.d y :: rest) [] v []) (hq : ConvQ x.lend y) (hx : V.isDataL rest = true)
    (h : (nameAll nm (v.ren fun i => ([] : List Nat).getD i 0)).wp st R W k) : (callP P nm f (.d x :: rest)).wp st R W k := call_data (con_give hq hc) hx h
end Go.Proofs.YtdlaplgofgklnaaGreat.L