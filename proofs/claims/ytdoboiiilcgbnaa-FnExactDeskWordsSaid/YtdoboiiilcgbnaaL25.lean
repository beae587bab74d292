/- WHAT IS PROVED: the rules by which a walk goes. Conditions: none. -/
import Derived.Test.YtdoboiiilcgbnaaL24
namespace Go.Proofs.Ytdoboiiilcgbnaa.L
set_option linter.unusedVariables false
set_option linter.unusedSimpArgs false

section
variable {P : Program} {T : Nat} {st : SL} {n : Nat} {Q : Exit → SL → Nat → Prop} {ops : Array Oper} {os : List Oper} {K : SL → Nat → Prop}

theorem aw_seq {a b : Code} (h : aw P T a st n (seqQ Q fun st n => aw P T b st n Q)) : aw P T (.seq a b) st n Q := h
theorem aw_skip (h : Q .normal st n) : aw P T .skip st n Q := h
theorem aw_ret (h : Q .ret st n) : aw P T .ret st n Q := h
theorem aw_exit {i : Nat} (h : Q (.exit i) st n) : aw P T (.exit i) st n Q := h
theorem aw_block {i : Nat} {c : Code} (h : aw P T c st n (blockQ Q i)) : aw P T (.block i c) st n Q := h
theorem aw_reg {i : Nat} {l : List Oper} (h : regW P T l.toArray l st n (Q .normal)) : aw P T (.region i l.toArray false) st n Q := h
theorem aw_cond {t : Nat} {x y : Code} {b : Bool} (hs : lk st (.s t) = some (.v (.d (.p (.bool b)))))
    (h1 : b = true → aw P T x ((.s t, some (.v (.d (.p (.bool true))))) :: st) n Q) (h2 : b = false → aw P T y ((.s t, some (.v (.d (.p (.bool false))))) :: st) n Q) : aw P T (.cond (.tmp t) x y) st n Q := by
  simp only [aw, condW, hs]
  exact ⟨h1, h2⟩
theorem seqQ_normal {K : SL → Nat → Prop} (h : K st n) : seqQ Q K .normal st n := h
theorem seqQ_ret {K : SL → Nat → Prop} (h : Q .ret st n) : seqQ Q K .ret st n := h
theorem seqQ_exit {K : SL → Nat → Prop} {i : Nat} (h : Q (.exit i) st n) : seqQ Q K (.exit i) st n := h
theorem blockQ_normal {i : Nat} (h : Q .normal st n) : blockQ Q i .normal st n := h
theorem blockQ_ret {i : Nat} (h : Q .ret st n) : blockQ Q i .ret st n := h
theorem blockQ_this {i : Nat} (h : Q .normal st n) : blockQ Q i (.exit i) st n := by simpa [blockQ] using h
theorem blockQ_other {i j : Nat} (hne : j ≠ i) (h : Q (.exit j) st n) : blockQ Q i (.exit j) st n := by simpa [blockQ, hne] using h

theorem gh_mono {K K' : SL → Nat → Prop} (h : Gh st n K) (hk : ∀ st n, K st n → K' st n) : Gh st n K' := by
  intro Γ tm w hs
  obtain ⟨st', n', h1, h2, h3⟩ := h Γ tm w hs
  exact ⟨st', n', h1, hk _ _ h2, h3⟩

/-- What a loop's round must come to: one of the states, from which less is to do. -/
def Next {ι : Type} (n : Nat) (S : ι → SL) (μ : ι → Nat) (J : ι → Prop) (mx : Nat) : SL → Nat → Prop :=
  Hd n fun st2 n2 => ∃ m', m' < mx ∧ n2 = n ∧ ∃ y, J y ∧ μ y = m' ∧ st2 = S y

theorem next_intro {ι : Type} {S : ι → SL} {μ : ι → Nat} {J : ι → Prop} {mx n' : Nat} (y : ι) (hy : J y) (hlt : μ y < mx) (hN : slN n (S y)) : Next n S μ J mx (S y) n' :=
  ⟨n, Nat.le_refl n, hN, μ y, hlt, rfl, y, hy, rfl, rfl⟩

/-- A LOOP: a family of states, what holds of each, what falls. -/
theorem aw_loop {c : Code} {ι : Type} (S : ι → SL) (μ : ι → Nat) (J : ι → Prop) (x0 : ι) (hx0 : J x0) (hN : slN n (S x0)) (h0 : Gh st n fun st' _ => st' = S x0)
    (round : ∀ x, J x → aw P T c (S x) n (seqQ Q fun st1 n1 => Gh st1 n1 (Next n S μ J (μ x)))) : aw P T (.loop c) st n Q := by
  simp only [aw]
  refine ⟨fun m st' n' => n' = n ∧ ∃ x, J x ∧ μ x = m ∧ st' = S x, ⟨μ x0, gh_mono h0 (fun st' n' e => ⟨n, Nat.le_refl n, by subst e; exact hN, rfl, x0, hx0, rfl, e⟩)⟩, ?_⟩
  rintro m st' n' ⟨rfl, x, hx, rfl, rfl⟩
  exact round x hx

theorem regW_nil (h : K st n) : regW P T ops [] st n K := h

theorem regW_op {dst : Option Tmp} {op : Op} {ty : TypeId} {pos : String} {af : Array Edge} {n' : Nat} (hd : dstOk T dst) (hn : n + 64 = n')
    (h : ∀ k : V → SL → List Res → List Res → Prop, (∀ v st' R W, regW P T ops os (putSt dst v st') n' K → k v st' R W) → (opC P n op).wp st [] [] k) :
    regW P T ops ({ dst := dst, op := op, type := ty, pos := pos, after := af, guard := none } :: os) st n K := by
  subst hn
  exact ⟨hd, h _ fun _ _ _ _ x => x⟩

theorem regW_guard {dst : Option Tmp} {op : Op} {ty : TypeId} {pos : String} {af : Array Edge} {j d n' : Nat} {want b : Bool} (hd : dstOk T dst) (hn : n + 64 = n') (hj : (ops[j]?).bind (·.dst) = some d)
    (hs : lk st (.s d) = some (.v (.d (.p (.bool b)))))
    (h : b = want → ∀ k : V → SL → List Res → List Res → Prop, (∀ v st' R W, regW P T ops os (putSt dst v st') n' K → k v st' R W) → (opC P n op).wp ((.s d, some (.v (.d (.p (.bool want))))) :: st) [] [] k)
    (h2 : b = !want → regW P T ops os (putSt dst (.tup []) ((.s d, some (.v (.d (.p (.bool (!want)))))) :: st)) n K) :
    regW P T ops ({ dst := dst, op := op, type := ty, pos := pos, after := af, guard := some (j, want) } :: os) st n K := by
  subst hn
  simp only [regW, hj, hs]
  exact ⟨hd, fun e => h e _ fun _ _ _ _ x => x, h2⟩

theorem regW_yes {dst : Option Tmp} {op : Op} {ty : TypeId} {pos : String} {af : Array Edge} {j d n' : Nat} {want : Bool} (hd : dstOk T dst) (hj : (ops[j]?).bind (·.dst) = some d)
    (hs : lk st (.s d) = some (.v (.d (.p (.bool want))))) (hn : n + 64 = n')
    (h : ∀ k : V → SL → List Res → List Res → Prop, (∀ v st' R W, regW P T ops os (putSt dst v st') n' K → k v st' R W) → (opC P n op).wp ((.s d, some (.v (.d (.p (.bool want))))) :: st) [] [] k) :
    regW P T ops ({ dst := dst, op := op, type := ty, pos := pos, after := af, guard := some (j, want) } :: os) st n K :=
  regW_guard hd hn hj hs (fun _ => h) (fun e => by cases want <;> cases e)

theorem regW_no {dst : Option Tmp} {op : Op} {ty : TypeId} {pos : String} {af : Array Edge} {j d : Nat} {want : Bool} (hd : dstOk T dst) (hj : (ops[j]?).bind (·.dst) = some d)
    (hs : lk st (.s d) = some (.v (.d (.p (.bool (!want)))))) (h : regW P T ops os (putSt dst (.tup []) ((.s d, some (.v (.d (.p (.bool (!want)))))) :: st)) n K) :
    regW P T ops ({ dst := dst, op := op, type := ty, pos := pos, after := af, guard := some (j, want) } :: os) st n K := by
  exact regW_guard hd rfl hj hs (fun e => by cases want <;> cases e) (fun _ => h)

theorem regW_skip {dst : Option Tmp} {op : Op} {ty : TypeId} {pos : String} {af : Array Edge} {j d : Nat} {want : Bool} (hd : dstOk T dst) (hj : (ops[j]?).bind (·.dst) = some d)
    (hs : lk st (.s d) = some (.v (.tup []))) (h2 : regW P T ops os (putSt dst (.tup []) st) n K) :
    regW P T ops ({ dst := dst, op := op, type := ty, pos := pos, after := af, guard := some (j, want) } :: os) st n K := by
  simp only [regW, hj, hs]
  exact ⟨hd, h2⟩

mutual
def V.isData : V → Bool
  | .d _ => true
  | .agg cs => V.isDataL cs
  | _ => false
def V.isDataL : List V → Bool
  | [] => true
  | x :: xs => x.isData && V.isDataL xs
end

mutual
theorem argP_self {π : Nat → Nat} {L : List Nat} {R W : List Res} {k : Unit → SL → List Res → List Res → Prop} : ∀ {x : V}, x.isData = true → k () st R W → (argP π L x x).wp st R W k
  | .d x, _, h => by simp only [argP, Prog.wp, true_or, true_and]; exact h
  | .agg xs, hx, h => by simp only [argP]; exact argsP_self hx h
theorem argsP_self {π : Nat → Nat} {L : List Nat} {R W : List Res} {k : Unit → SL → List Res → List Res → Prop} : ∀ {xs : List V}, V.isDataL xs = true → k () st R W → (argsP π L xs xs).wp st R W k
  | [], _, h => h
  | x :: xs, hx, h => by
    simp only [V.isDataL, Bool.and_eq_true] at hx
    simp only [argsP, Prog.wp_bind]
    exact argP_self hx.1 (argsP_self hx.2 h)
end

/-- A call with data alone. -/
theorem call_data {f : FuncId} {xs : List V} {v : V} {nm : Nat} {R W : List Res} {k : V → SL → List Res → List Res → Prop} (hc : Con P f xs [] v []) (hx : V.isDataL xs = true)
    (h : (nameAll nm (v.ren fun i => ([] : List Nat).getD i 0)).wp st R W k) : (callP P nm f xs).wp st R W k := by
  simp only [callP, Prog.wp]
  refine ⟨⟨xs, [], v, [], [], []⟩, ⟨hc, List.nodup_nil, by simp, .inl rfl⟩, ?_⟩
  simp only [Prog.wp_bind]
  refine argsP_self hx ?_
  simp only [objsP, Prog.wp]
  exact h

end
end Go.Proofs.Ytdoboiiilcgbnaa.L
