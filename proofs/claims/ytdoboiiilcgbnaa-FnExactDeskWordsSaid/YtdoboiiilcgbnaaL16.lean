/- WHAT IS PROVED: the abstract conversions and copies tell what the model's do. Conditions: none. -/
import Derived.Test.YtdoboiiilcgbnaaL15
namespace Go.Proofs.Ytdoboiiilcgbnaa.L
set_option linter.unusedVariables false
set_option linter.unusedSimpArgs false

section
variable {P : Program} {Γ : Ctx} {Z B : Zone} {ρ : Names} {F : Ix → List Nat} {N : Nat → Prop} {st st' : St} {ps : List V} {vals : List Value} {X : List Nat} {tm : Array Value} {w : World}

theorem rowsBytes_cells : ∀ {ys : List (List D)} {news : List Value} {G : List Nat} {l : List UInt8}, RelDs Z B w ys.flatten news G → rowsBytes ys = some l → ∃ ns : List Int, news = ns.map (Value.int .u8) ∧ l = ns.map fun n => UInt8.ofNat n.toNat
  | [], news, G, l, h, hl => by
    simp only [rowsBytes, Option.some.injEq] at hl
    subst hl
    cases h
    exact ⟨[], rfl, rfl⟩
  | r :: ys, news, G, l, h, hl => by
    unfold rowsBytes at hl
    split at hl
    · rename_i e
      cases e
    · rename_i n r' e
      simp only [List.cons.injEq] at e
      obtain ⟨rfl, rfl⟩ := e
      simp only [Option.map_eq_some_iff] at hl
      obtain ⟨l', h1, rfl⟩ := hl
      cases h with
      | p _ h2 =>
        obtain ⟨ns, rfl, rfl⟩ := rowsBytes_cells h2 h1
        exact ⟨n :: ns, rfl, rfl⟩
    · cases hl

theorem run_convert_bytes_any (w : World) (src e dst : TypeId) (hs : P.underlying src = some (.slice e)) (he : P.underlying e = some (.int .u8)) (hd : P.underlying dst = some .string) {val : Value} {n : Nat} {ns : List Int}
    (h : SrcOf w val n (ns.map (Value.int .u8))) (hn : (ns.map (Value.int .u8)).length = n) (hstr : ∀ b, val ≠ .string b) : (convert src dst val).run P w = .ok (.string (strOfNums ns)) w := by
  have fin : ∀ (a : Addr) (c : Nat), (loadCells a n).run P w = .ok (ns.map (Value.int .u8)).toArray w → (convert src dst (.slice (some a) n c)).run P w = .ok (.string (strOfNums ns)) w := by
    intro a c hl
    rw [run_convert_bytes_string w src dst e _ n c hs he hd, run_bytesToString w _ n c ns hl, foldl_push_bytes]
    simp [strOfNums, ByteArray.empty, ByteArray.emptyWithCapacity]
    rfl
  generalize hnews : ns.map (Value.int .u8) = news at h hn fin
  cases h with
  | nil =>
    rename_i A c
    have : ns = [] := by simpa using hnews
    subst this
    cases A with
    | none => exact run_convert_bytes_nil w src e hs he 0 c dst hd
    | some a => exact fin a c (by simpa using run_loadCells_list (P := P) w a [] (by simp))
  | cells hr =>
    rename_i b o c
    refine fin _ c ?_
    have := run_loadCells_list (P := P) w ⟨b, o, none⟩ news (fun j u hj => by rw [Addr.add_mid]; exact hr j u hj)
    rw [hn] at this
    exact this
  | str => exact absurd rfl (hstr _)

theorem byteRows_cells (b : ByteArray) : ((byteRows b).flatten.map V.d) = (byteCells b).map fun u => V.d (.p u) := by
  unfold byteRows byteCells
  generalize b.data.toList = l
  induction l with
  | nil => rfl
  | cons x l ih => simp only [List.map_cons, List.flatten_cons, List.map_append, ih]; rfl

theorem byteRows_length (b : ByteArray) : (byteRows b).length = b.size := by
  unfold byteRows
  rw [List.length_map, Array.length_toList]; rfl

theorem byteCells_one (b : ByteArray) : ∀ u ∈ byteCells b, u.oneCell' = true := by
  intro u hu
  obtain ⟨_, _, rfl⟩ := List.mem_map.1 hu
  rfl

theorem SatF.bytes {e : TypeId} {b : ByteArray} {vc : List Value} (h : SatF Γ Z B ρ F N st ps vc X tm w) :
    ∃ F', SatF Γ Z B ρ F' N st (.d (.row .own 1 (byteRows b)) :: ps) (.slice (some ⟨w.heap.size, 0, none⟩) b.size (grownCap w b.size 0 e) :: vc) X tm (Lib.bytesWorld w e b) := by
  have h1 := (SatF.pushPlain (byteCells b) (byteCells_one b) h).drew
  rw [← byteRows_cells] at h1
  have hge := grownCap_ge w b.size 0 e
  have hsz : (Lib.bytesCells w e b).size = grownCap w b.size 0 e := by
    simp only [Lib.bytesCells, Array.size_append, Array.size_map, Array.size_replicate]
    have : b.data.size = b.size := rfl
    omega
  have hnew := Lib.bytesWorld_at_new w e b
  have hblk : Blk (Lib.bytesWorld w e b) w.heap.size (grownCap w b.size 0 e) := by
    refine ⟨_, _, _, hnew, ?_, by omega⟩
    intro o ho hh
    simp only at hh
    omega
  have hrange : (Lib.bytesWorld w e b).rangeAt w.heap.size 0 (byteCells b) := by
    intro j u hj
    have hlt : j < b.size := by
      have := (List.getElem?_eq_some_iff.1 hj).1
      rwa [byteCells_length] at this
    have := Lib.bytesWorld_cell w e b j hlt
    rw [Nat.zero_add, this]
    simp only [byteCells, List.getElem?_map, Option.map_eq_some_iff] at hj
    obtain ⟨c, h1, rfl⟩ := hj
    simp [List.getD, h1]
  have hold : ∀ k, k < w.heap.size → (Lib.bytesWorld w e b).heap[k]? = w.heap[k]? := fun k hk => Lib.bytesWorld_at_old w e b k hk
  have hg : Grow w.drew (Lib.bytesWorld w e b) := by
    refine ⟨rfl, rfl, rfl, by rw [Lib.bytesWorld_size]; exact Nat.le_succ _, ?_⟩
    rintro k n ⟨arr, ty, fz, a1, a2, a3⟩
    exact ⟨arr, ty, fz, by rw [hold k ((Array.getElem?_eq_some_iff.1 a1).1)]; exact a1, a2, a3⟩
  refine h1.freshG (by rw [byteRows_cells, List.length_map]) hg hold hrange hblk ?_ (fun _ => trivial)
  intro G hG
  have hD := RelVs.toD hG
  have hrow := RelDs.row (m := .own) (s := 1) (c := grownCap w b.size 0 e) (xs := byteRows b) (Z := Z) (B := B) hD hrange trivial (fun _ => by simpa using hblk) (fun hh => absurd rfl hh) (by
    intro x hx
    obtain ⟨c, _, rfl⟩ := List.mem_map.1 hx
    rfl) (by rw [byteRows_length]; exact hge) .nil
  have := RelVs.d (ρ := ρ) hrow .nil
  rw [byteRows_length] at this
  simpa [Md.foot] using this

theorem convert_ok {o : Oper} {nm : Nat} {v : V} {R W : List Res} {src dst : TypeId} {x : Operand} (ho : o.op = .convert src dst x) (hr : Run ((fetchP x).bind (convertP P src dst)) st v st' R W) : OpOk P o nm st v st' := by
  rintro Γ N a w ⟨Z, B, ρ, F, h⟩ hf K Q hk
  obtain ⟨va, st1, R1, W1, R2, W2, r1, r2, -, -⟩ := hr.bind_inv
  obtain ⟨F1, h1⟩ := fetch_sound r1 (rfl : a.tmps = a.tmps) h
  unfold convertP at r2
  obtain ⟨ts, st2, R3, W3, R4, W4, r3, r4, -, -⟩ := r2.bind_inv
  obtain ⟨g1, rfl⟩ := ofO_run r3
  obtain ⟨td, st3, R5, W5, R6, W6, r5, r6, -, -⟩ := r4.bind_inv
  obtain ⟨g2, rfl⟩ := ofO_run r5
  obtain ⟨d1, i1, z1, hu1, hi1, hz1, rfl⟩ := tyOf_spec g1
  obtain ⟨d2, i2, z2, hu2, hi2, hz2, rfl⟩ := tyOf_spec g2
  dsimp only at r6
  split at r6
  · rename_i k1 k2 k3 n e1 e2
    have e1 := ofK_int e1
    have e2 := ofK_int e2
    subst e1; subst e2
    cases r6
    obtain ⟨G, g⟩ := h1.head
    have e3 := rel_p g
    obtain ⟨F2, h2⟩ := h1.plain (val' := .int k2 (k2.wrap n)) rfl
    refine wp_value (w' := w) (val := .int k2 (k2.wrap n)) ?_ (hk _ _ h2.toNx.satP)
    simp [execOp, ho, e3, convert, run_underlying hu1, run_underlying hu2, Conv.intToInt]
  · rename_i b e1 e2
    have e1 := ofK_str e1
    have e2 := ofK_str e2
    subst e1; subst e2
    cases r6
    obtain ⟨G, g⟩ := h1.head
    have e3 := rel_p g
    refine wp_value (w' := w) (val := a.eval x) ?_ (hk _ _ h1.toNx.satP)
    simp [execOp, ho, e3, convert, run_underlying hu1, run_underlying hu2]
  · rename_i e b e1 e2
    have e1 := ofK_str e1
    have e2 := ofK_slice e2
    subst e1; subst e2
    obtain ⟨te, st4, R7, W7, R8, W8, r7, r8, -, -⟩ := r6.bind_inv
    obtain ⟨g3, rfl⟩ := ofO_run r7
    obtain ⟨d3, i3, z3, hu3, hi3, hz3, rfl⟩ := tyOf_spec g3
    cases r8 with
    | req g4 r9 =>
      cases r9
      obtain ⟨g4, g5⟩ := g4
      have g4 := ofK_int g4
      subst g4
      obtain ⟨G, g⟩ := h1.head
      have e3 := rel_p g
      obtain ⟨F2, h2⟩ := h1.drop
      obtain ⟨F3, h3⟩ := h2.bytes (e := e) (b := b)
      refine wp_value (w' := Lib.bytesWorld w e b) ?_ (hk _ _ h3.toNx.satP)
      simp [execOp, ho, e3, Lib.run_convert_string_bytes w src dst e b hu1 hu2 hu3]
  · rename_i e e1 e2
    have e1 := ofK_slice e1
    have e2 := ofK_str e2
    subst e1; subst e2
    obtain ⟨te, st4, R7, W7, R8, W8, r7, r8, -, -⟩ := r6.bind_inv
    obtain ⟨g3, rfl⟩ := ofO_run r7
    obtain ⟨d3, i3, z3, hu3, hi3, hz3, rfl⟩ := tyOf_spec g3
    cases r8 with
    | req g4 r9 =>
      obtain ⟨g4, g5, g6⟩ := g4
      have g4 := ofK_int g4
      subst g4
      obtain ⟨ys, st5, R9, W9, R10, W10, r10, r11, -, -⟩ := r9.bind_inv
      obtain ⟨l, st6, R11, W11, R12, W12, r12, r13, -, -⟩ := r11.bind_inv
      obtain ⟨g7, rfl⟩ := ofO_run r12
      cases r13
      obtain ⟨F2, news, X', h2, hsrc, hy, hnl, hone, hstr, hstr2⟩ := rows_sound (ps := []) (vc := []) r10 g5 h1
      obtain ⟨Fa, Fm, Fc, e0, q1, q2, q3, n1, n2, n3⟩ := SatF.partsAt (pre := []) (mid := ys.flatten.map V.d) (ps := []) (va := []) (vm := news) (vc := []) (by simpa using h2) rfl (by rw [List.length_map, flatten_length hy, hnl])
      obtain ⟨ns, rfl, rfl⟩ := rowsBytes_cells (RelVs.toD q2) g7
      have hrun := run_convert_bytes_any w src e dst hu1 hu3 hu2 hsrc (by rw [hnl, Nat.mul_one]) (fun b hb => by
        obtain ⟨b', hb'⟩ := hstr2.1 ⟨b, hb⟩
        rw [hb'] at g6
        cases g6)
      have h3 : SatF Γ Z B ρ F2 N st' ((ys.flatten.map V.d) ++ []) (ns.map (Value.int .u8) ++ []) X' a.tmps w := h2
      obtain ⟨F3, _, h4⟩ := h3.rehand (ps' := []) (vals' := []) (X' := []) (Fp' := []) .nil trivial (fun _ => by simp) (by simp)
      have h5 := h4.push (v := .d (.p (.string (strOfNums ns)))) (val := .string (strOfNums ns)) (.d (.p rfl .nil) .nil) trivial
      refine wp_value (w' := w) (val := .string (strOfNums ns)) ?_ (hk _ _ ?_)
      · simp [execOp, ho, hrun]
      · exact h5.toNx.satP
  · cases r6

end
end Go.Proofs.Ytdoboiiilcgbnaa.L
