/- WHAT IS PROVED: the law of every abstract operation. Conditions: none. -/
import Derived.Test.YtdoboiiilcgbnaaL19
namespace Go.Proofs.Ytdoboiiilcgbnaa.L
set_option linter.unusedVariables false
set_option linter.unusedSimpArgs false

theorem arr_one {α : Type} {xs : Array α} {x : α} (h : xs.toList = [x]) : xs = #[x] := by apply Array.ext'; simpa using h
theorem arr_two {α : Type} {xs : Array α} {x y : α} (h : xs.toList = [x, y]) : xs = #[x, y] := by apply Array.ext'; simpa using h

theorem opP_ok {P : Program} {o : Oper} {op : Op} {nm : Nat} {st st' : St} {v : V} {R W : List Res} (ho : o.op = op) (hr : Run (opP P nm op) st v st' R W) : OpOk P o nm st v st' := by
  unfold opP at hr
  split at hr
  · exact move_ok (.inl ho) hr
  · exact move_ok (.inr ho) hr
  · exact pick_ok ho hr
  · exact alloc_ok ho hr
  · exact box_ok ho hr
  · exact build_ok ho hr
  · exact buildSlice_ok ho hr
  · exact load_ok ho hr
  · exact store_ok ho hr
  · exact nilCheck_ok ho hr
  · exact binOp_ok ho (by unfold opP; exact hr)
  · exact unOp_ok ho hr
  · exact convert_ok ho hr
  · exact makeFunc_ok ho hr
  · exact makeSlice_ok ho hr
  · exact slice_ok ho hr
  · exact fieldAddr_ok ho hr
  · exact field_ok ho hr
  · exact indexAddr_ok ho hr
  · exact index_ok ho hr
  · exact extract_ok ho hr
  · split at hr
    · rename_i h1 h2
      rw [arr_one h1, arr_one h2] at ho
      exact len_ok ho hr
    · cases hr
  · split at hr
    · rename_i h1 h2
      rw [arr_two h1, arr_two h2] at ho
      exact append_ok ho hr
    · cases hr
  · split at hr
    · rename_i h1
      rw [arr_two h1] at ho
      exact minmax_ok (mx := false) ho hr
    · cases hr
  · split at hr
    · rename_i h1
      rw [arr_two h1] at ho
      exact minmax_ok (mx := true) ho hr
    · cases hr
  · cases hr

theorem opC_ok {P : Program} {o : Oper} {nm : Nat} {st st' : St} {v : V} {R W : List Res} (hr : Run (opC P nm o.op) st v st' R W) : OpOk P o nm st v st' := by
  generalize ho : o.op = op at hr
  unfold opC at hr
  split at hr
  · exact call_ok ho hr
  · exact opP_ok ho hr

end Go.Proofs.Ytdoboiiilcgbnaa.L
