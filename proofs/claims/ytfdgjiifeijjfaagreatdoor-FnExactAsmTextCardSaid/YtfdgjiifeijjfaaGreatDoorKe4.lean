/- WHAT IS PROVED: an abstract walker over the model, what some functions of the program answer, and laws of these answers. Conditions: none. -/
import Derived.Test.YtfdgjiifeijjfaaGreatDoorKe3
import Derived.Test.YtfdgjiifeijjfaaGreatDoorRows
import Derived.KernelRfl
import Derived.Shelf.LaysM
import Derived.Shelf.Strconv.Itoa4
import Derived.Test.YtfdgjiifeijjfaaGreatDoorProg
namespace Go.Proofs.YtfdgjiifeijjfaaGreatDoor
open Go.Proofs Go.Proofs.YtfdgjiifeijjfaaGreatDoor.L
set_option maxHeartbeats 400000
set_option linter.unusedSimpArgs false
set_option linter.unusedVariables false
set_option maxRecDepth 100000
set_option linter.defProp false
theorem mixed : Tryz.prog.follows .mixedOrders = true := by kernel_rfl
structure GI2 where
  a : Int
  b : Int
  deriving DecidableEq
def GI2.cells (x : GI2) : List D := [.p (.int .i64 x.a), .p (.int .i64 x.b)]
theorem GI2_set (l : List GI2) (i : Nat) (a_ : Int) (b_ : Int) : (dd (Rw GI2.cells l)).set i [V.d (.p (.int .i64 a_)), V.d (.p (.int .i64 b_))] = dd (Rw GI2.cells (l.set i ⟨a_, b_⟩)) := Rw_set (f := GI2.cells) l i ⟨a_, b_⟩
theorem GI2_Dset (l : List GI2) (i : Nat) (a_ : Int) (b_ : Int) : (Rw GI2.cells l).set i [.p (.int .i64 a_), .p (.int .i64 b_)] = Rw GI2.cells (l.set i ⟨a_, b_⟩) := (Rw_Dset (f := GI2.cells) l i ⟨a_, b_⟩)
theorem GI2_rep (n : Nat) (a_ : Int) (b_ : Int) : List.replicate n [.p (.int .i64 a_), .p (.int .i64 b_)] = Rw GI2.cells (List.replicate n ⟨a_, b_⟩) := Rw_rep (f := GI2.cells) n ⟨a_, b_⟩
theorem GI2_lend (l : List GI2) : D.lendLL (Rw GI2.cells l) = Rw GI2.cells l := Rw_lend (fun _ => rfl) l
theorem GI2_nb (l : List GI2) : D.nbLL (Rw GI2.cells l) = true := Rw_nb (fun _ => rfl) l
theorem GI2_plain (l : List GI2) : D.plainRows (Rw GI2.cells l) = True := Rw_plain (fun x => by simp [GI2.cells, D.lin]) l
def GI2_e := And.intro @GI2_set <| And.intro @GI2_rep @GI2_plain
theorem LGI2_set (l : List (List GI2)) (i : Nat) (x : (List GI2)) : (dd (Rw (cL .own 2 GI2.cells) l)).set i [V.d (.row .own 2 (Rw GI2.cells x))] = dd (Rw (cL .own 2 GI2.cells) (l.set i x)) := Rw_set (f := (cL .own 2 GI2.cells)) l i x
theorem LGI2_Dset (l : List (List GI2)) (i : Nat) (x : (List GI2)) : (Rw (cL .own 2 GI2.cells) l).set i [.row .own 2 (Rw GI2.cells x)] = Rw (cL .own 2 GI2.cells) (l.set i x) := Rw_Dset (f := (cL .own 2 GI2.cells)) l i x
theorem LGI2_rep (n : Nat) (x : (List GI2)) : List.replicate n [.row .own 2 (Rw GI2.cells x)] = Rw (cL .own 2 GI2.cells) (List.replicate n x) := Rw_rep (f := (cL .own 2 GI2.cells)) n x
theorem LGI2_lend (m : Md) (l : List (List GI2)) : D.lendLL (Rw (cL m 2 GI2.cells) l) = Rw (cL .bor 2 GI2.cells) l := Rw_lend (fun x => by simp only [cL, D.lendL, D.lend, Md.lend, GI2_lend]) l
theorem LGI2_nb (l : List (List GI2)) : D.nbLL (Rw (cL .own 2 GI2.cells) l) = true := Rw_nb (fun x => by simp only [cL, D.nbL, D.nb, Md.nb, Bool.and_self, GI2_nb]) l
theorem LGI2_plain (l : List (List GI2)) : D.plainRows (Rw (cL .bor 2 GI2.cells) l) = True := Rw_plain (fun x => by simp [cL, D.lin]) l
def LGI2_e := And.intro @LGI2_set <| And.intro @LGI2_rep @LGI2_plain
structure GFunc where
  args : Int
  locals : Int
  code : (List GI2)
  deriving DecidableEq
def GFunc.cells (m : Md) (x : GFunc) : List D := [.p (.int .i64 x.args), .p (.int .i64 x.locals), .row m 2 (Rw GI2.cells x.code)]
theorem GFunc_set (l : List GFunc) (i : Nat) (args_ : Int) (locals_ : Int) (code_ : (List GI2)) : (dd (Rw (GFunc.cells .own) l)).set i [V.d (.p (.int .i64 args_)), V.d (.p (.int .i64 locals_)), V.d (.row .own 2 (Rw GI2.cells code_))] = dd (Rw (GFunc.cells .own) (l.set i ⟨args_, locals_, code_⟩)) := Rw_set (f := (GFunc.cells .own)) l i ⟨args_, locals_, code_⟩
theorem GFunc_Dset (l : List GFunc) (i : Nat) (args_ : Int) (locals_ : Int) (code_ : (List GI2)) : (Rw (GFunc.cells .own) l).set i [.p (.int .i64 args_), .p (.int .i64 locals_), .row .own 2 (Rw GI2.cells code_)] = Rw (GFunc.cells .own) (l.set i ⟨args_, locals_, code_⟩) := (Rw_Dset (f := (GFunc.cells .own)) l i ⟨args_, locals_, code_⟩)
theorem GFunc_rep (n : Nat) (args_ : Int) (locals_ : Int) (code_ : (List GI2)) : List.replicate n [.p (.int .i64 args_), .p (.int .i64 locals_), .row .own 2 (Rw GI2.cells code_)] = Rw (GFunc.cells .own) (List.replicate n ⟨args_, locals_, code_⟩) := Rw_rep (f := (GFunc.cells .own)) n ⟨args_, locals_, code_⟩
theorem GFunc_lend (m : Md) (l : List GFunc) : D.lendLL (Rw (GFunc.cells m) l) = Rw (GFunc.cells .bor) l := Rw_lend (fun x => by simp only [GFunc.cells, D.lendL, D.lend, Md.lend, GI2_lend]) l
theorem GFunc_nb (l : List GFunc) : D.nbLL (Rw (GFunc.cells .own) l) = true := Rw_nb (fun x => by simp only [GFunc.cells, D.nbL, D.nb, Md.nb, Bool.and_self, GI2_nb]) l
theorem GFunc_plain (l : List GFunc) : D.plainRows (Rw (GFunc.cells .bor) l) = True := Rw_plain (fun x => by simp [GFunc.cells, D.lin]) l
def GFunc_e := And.intro @GFunc_set <| And.intro @GFunc_rep @GFunc_plain
structure GProgram where
  funcs : (List GFunc)
  deriving DecidableEq
def GProgram.cells (m : Md) (x : GProgram) : List D := [.row m 3 (Rw (GFunc.cells m) x.funcs)]
theorem GProgram_set (l : List GProgram) (i : Nat) (funcs_ : (List GFunc)) : (dd (Rw (GProgram.cells .own) l)).set i [V.d (.row .own 3 (Rw (GFunc.cells .own) funcs_))] = dd (Rw (GProgram.cells .own) (l.set i ⟨funcs_⟩)) := Rw_set (f := (GProgram.cells .own)) l i ⟨funcs_⟩
theorem GProgram_Dset (l : List GProgram) (i : Nat) (funcs_ : (List GFunc)) : (Rw (GProgram.cells .own) l).set i [.row .own 3 (Rw (GFunc.cells .own) funcs_)] = Rw (GProgram.cells .own) (l.set i ⟨funcs_⟩) := (Rw_Dset (f := (GProgram.cells .own)) l i ⟨funcs_⟩)
theorem GProgram_rep (n : Nat) (funcs_ : (List GFunc)) : List.replicate n [.row .own 3 (Rw (GFunc.cells .own) funcs_)] = Rw (GProgram.cells .own) (List.replicate n ⟨funcs_⟩) := Rw_rep (f := (GProgram.cells .own)) n ⟨funcs_⟩
theorem GProgram_lend (m : Md) (l : List GProgram) : D.lendLL (Rw (GProgram.cells m) l) = Rw (GProgram.cells .bor) l := Rw_lend (fun x => by simp only [GProgram.cells, D.lendL, D.lend, Md.lend, GFunc_lend]) l
theorem GProgram_nb (l : List GProgram) : D.nbLL (Rw (GProgram.cells .own) l) = true := Rw_nb (fun x => by simp only [GProgram.cells, D.nbL, D.nb, Md.nb, Bool.and_self, GFunc_nb]) l
theorem GProgram_plain (l : List GProgram) : D.plainRows (Rw (GProgram.cells .bor) l) = True := Rw_plain (fun x => by simp [GProgram.cells, D.lin]) l
def GProgram_e := And.intro @GProgram_set <| And.intro @GProgram_rep @GProgram_plain
theorem LcIi64_set (l : List (List Int)) (i : Nat) (x : (List Int)) : (dd (Rw (cL .own 1 (cI .i64)) l)).set i [V.d (.row .own 1 (Rw (cI .i64) x))] = dd (Rw (cL .own 1 (cI .i64)) (l.set i x)) := Rw_set (f := (cL .own 1 (cI .i64))) l i x
theorem LcIi64_Dset (l : List (List Int)) (i : Nat) (x : (List Int)) : (Rw (cL .own 1 (cI .i64)) l).set i [.row .own 1 (Rw (cI .i64) x)] = Rw (cL .own 1 (cI .i64)) (l.set i x) := Rw_Dset (f := (cL .own 1 (cI .i64))) l i x
theorem LcIi64_one (x : (List Int)) : [[.row .own 1 (Rw (cI .i64) x)]] = Rw (cL .own 1 (cI .i64)) [x] := rfl
theorem LcIi64_cons (l : List (List Int)) (x : (List Int)) : [.row .own 1 (Rw (cI .i64) x)] :: Rw (cL .own 1 (cI .i64)) l = Rw (cL .own 1 (cI .i64)) (x :: l) := rfl
theorem LcIi64_done (x : (List Int)) : [[V.d (.row .own 1 (Rw (cI .i64) x))]] = dd (Rw (cL .own 1 (cI .i64)) [x]) := rfl
theorem LcIi64_dcons (l : List (List Int)) (x : (List Int)) : [V.d (.row .own 1 (Rw (cI .i64) x))] :: dd (Rw (cL .own 1 (cI .i64)) l) = dd (Rw (cL .own 1 (cI .i64)) (x :: l)) := rfl
theorem LcIi64_rep (n : Nat) (x : (List Int)) : List.replicate n [.row .own 1 (Rw (cI .i64) x)] = Rw (cL .own 1 (cI .i64)) (List.replicate n x) := Rw_rep (f := (cL .own 1 (cI .i64))) n x
theorem LcIi64_lend (m : Md) (l : List (List Int)) : D.lendLL (Rw (cL m 1 (cI .i64)) l) = Rw (cL .bor 1 (cI .i64)) l := Rw_lend (fun x => by simp only [cL, D.lendL, D.lend, Md.lend, cI_lend]) l
theorem LcIi64_nb (l : List (List Int)) : D.nbLL (Rw (cL .own 1 (cI .i64)) l) = true := Rw_nb (fun x => by simp only [cL, D.nbL, D.nb, Md.nb, Bool.and_self, cI_nb]) l
theorem LcIi64_plain (l : List (List Int)) : D.plainRows (Rw (cL .bor 1 (cI .i64)) l) = True := Rw_plain (fun x => by simp [cL, D.lin]) l
def LcIi64_e := And.intro @LcIi64_set <| And.intro @LcIi64_rep @LcIi64_plain
def LcIi64_b := And.intro @LcIi64_one <| And.intro @LcIi64_cons <| And.intro @LcIi64_done @LcIi64_dcons
structure Gprog where
  program : GProgram
  h : (List (List Int))
  deriving DecidableEq
def Gprog.cells (m : Md) (x : Gprog) : List D := [.row m 3 (Rw (GFunc.cells m) x.program.funcs), .row m 1 (Rw (cL m 1 (cI .i64)) x.h)]
theorem Gprog_set (l : List Gprog) (i : Nat) (program_funcs_ : (List GFunc)) (h_ : (List (List Int))) : (dd (Rw (Gprog.cells .own) l)).set i [V.d (.row .own 3 (Rw (GFunc.cells .own) program_funcs_)), V.d (.row .own 1 (Rw (cL .own 1 (cI .i64)) h_))] = dd (Rw (Gprog.cells .own) (l.set i ⟨⟨program_funcs_⟩, h_⟩)) := Rw_set (f := (Gprog.cells .own)) l i ⟨⟨program_funcs_⟩, h_⟩
theorem Gprog_rep (n : Nat) (program_funcs_ : (List GFunc)) (h_ : (List (List Int))) : List.replicate n [.row .own 3 (Rw (GFunc.cells .own) program_funcs_), .row .own 1 (Rw (cL .own 1 (cI .i64)) h_)] = Rw (Gprog.cells .own) (List.replicate n ⟨⟨program_funcs_⟩, h_⟩) := Rw_rep (f := (Gprog.cells .own)) n ⟨⟨program_funcs_⟩, h_⟩
theorem Gprog_lend (m : Md) (l : List Gprog) : D.lendLL (Rw (Gprog.cells m) l) = Rw (Gprog.cells .bor) l := Rw_lend (fun x => by simp only [Gprog.cells, D.lendL, D.lend, Md.lend, GFunc_lend, LcIi64_lend]) l
theorem Gprog_nb (l : List Gprog) : D.nbLL (Rw (Gprog.cells .own) l) = true := Rw_nb (fun x => by simp only [Gprog.cells, D.nbL, D.nb, Md.nb, Bool.and_self, GFunc_nb, LcIi64_nb]) l
theorem Gprog_plain (l : List Gprog) : D.plainRows (Rw (Gprog.cells .bor) l) = True := Rw_plain (fun x => by simp [Gprog.cells, D.lin]) l
def Gprog_e := And.intro @Gprog_set <| And.intro @Gprog_rep @Gprog_plain
structure GMov where
  to : Int
  from0 : GI2
  deriving DecidableEq
def GMov.cells (x : GMov) : List D := [.p (.int .i64 x.to), .p (.int .i64 x.from0.a), .p (.int .i64 x.from0.b)]
theorem GMov_set (l : List GMov) (i : Nat) (to_ : Int) (from0_a_ : Int) (from0_b_ : Int) : (dd (Rw GMov.cells l)).set i [V.d (.p (.int .i64 to_)), V.d (.p (.int .i64 from0_a_)), V.d (.p (.int .i64 from0_b_))] = dd (Rw GMov.cells (l.set i ⟨to_, ⟨from0_a_, from0_b_⟩⟩)) := Rw_set (f := GMov.cells) l i ⟨to_, ⟨from0_a_, from0_b_⟩⟩
theorem GMov_Dset (l : List GMov) (i : Nat) (to_ : Int) (from0_a_ : Int) (from0_b_ : Int) : (Rw GMov.cells l).set i [.p (.int .i64 to_), .p (.int .i64 from0_a_), .p (.int .i64 from0_b_)] = Rw GMov.cells (l.set i ⟨to_, ⟨from0_a_, from0_b_⟩⟩) := (Rw_Dset (f := GMov.cells) l i ⟨to_, ⟨from0_a_, from0_b_⟩⟩)
theorem GMov_rep (n : Nat) (to_ : Int) (from0_a_ : Int) (from0_b_ : Int) : List.replicate n [.p (.int .i64 to_), .p (.int .i64 from0_a_), .p (.int .i64 from0_b_)] = Rw GMov.cells (List.replicate n ⟨to_, ⟨from0_a_, from0_b_⟩⟩) := Rw_rep (f := GMov.cells) n ⟨to_, ⟨from0_a_, from0_b_⟩⟩
theorem GMov_lend (l : List GMov) : D.lendLL (Rw GMov.cells l) = Rw GMov.cells l := Rw_lend (fun _ => rfl) l
theorem GMov_nb (l : List GMov) : D.nbLL (Rw GMov.cells l) = true := Rw_nb (fun _ => rfl) l
theorem GMov_plain (l : List GMov) : D.plainRows (Rw GMov.cells l) = True := Rw_plain (fun x => by simp [GMov.cells, D.lin]) l
def GMov_e := And.intro @GMov_set <| And.intro @GMov_rep @GMov_plain
structure GAsmIns where
  pre : (List GMov)
  op : Int
  to : Int
  l : (List GI2)
  t : Int
  deriving DecidableEq
def GAsmIns.cells (m : Md) (x : GAsmIns) : List D := [.row m 3 (Rw GMov.cells x.pre), .p (.int .i64 x.op), .p (.int .i64 x.to), .row m 2 (Rw GI2.cells x.l), .p (.int .i64 x.t)]
theorem GAsmIns_set (l : List GAsmIns) (i : Nat) (pre_ : (List GMov)) (op_ : Int) (to_ : Int) (l_ : (List GI2)) (t_ : Int) : (dd (Rw (GAsmIns.cells .own) l)).set i [V.d (.row .own 3 (Rw GMov.cells pre_)), V.d (.p (.int .i64 op_)), V.d (.p (.int .i64 to_)), V.d (.row .own 2 (Rw GI2.cells l_)), V.d (.p (.int .i64 t_))] = dd (Rw (GAsmIns.cells .own) (l.set i ⟨pre_, op_, to_, l_, t_⟩)) := Rw_set (f := (GAsmIns.cells .own)) l i ⟨pre_, op_, to_, l_, t_⟩
theorem GAsmIns_Dset (l : List GAsmIns) (i : Nat) (pre_ : (List GMov)) (op_ : Int) (to_ : Int) (l_ : (List GI2)) (t_ : Int) : (Rw (GAsmIns.cells .own) l).set i [.row .own 3 (Rw GMov.cells pre_), .p (.int .i64 op_), .p (.int .i64 to_), .row .own 2 (Rw GI2.cells l_), .p (.int .i64 t_)] = Rw (GAsmIns.cells .own) (l.set i ⟨pre_, op_, to_, l_, t_⟩) := (Rw_Dset (f := (GAsmIns.cells .own)) l i ⟨pre_, op_, to_, l_, t_⟩)
theorem GAsmIns_rep (n : Nat) (pre_ : (List GMov)) (op_ : Int) (to_ : Int) (l_ : (List GI2)) (t_ : Int) : List.replicate n [.row .own 3 (Rw GMov.cells pre_), .p (.int .i64 op_), .p (.int .i64 to_), .row .own 2 (Rw GI2.cells l_), .p (.int .i64 t_)] = Rw (GAsmIns.cells .own) (List.replicate n ⟨pre_, op_, to_, l_, t_⟩) := Rw_rep (f := (GAsmIns.cells .own)) n ⟨pre_, op_, to_, l_, t_⟩
theorem GAsmIns_lend (m : Md) (l : List GAsmIns) : D.lendLL (Rw (GAsmIns.cells m) l) = Rw (GAsmIns.cells .bor) l := Rw_lend (fun x => by simp only [GAsmIns.cells, D.lendL, D.lend, Md.lend, GI2_lend, GMov_lend]) l
theorem GAsmIns_nb (l : List GAsmIns) : D.nbLL (Rw (GAsmIns.cells .own) l) = true := Rw_nb (fun x => by simp only [GAsmIns.cells, D.nbL, D.nb, Md.nb, Bool.and_self, GI2_nb, GMov_nb]) l
theorem GAsmIns_plain (l : List GAsmIns) : D.plainRows (Rw (GAsmIns.cells .bor) l) = True := Rw_plain (fun x => by simp [GAsmIns.cells, D.lin]) l
def GAsmIns_e := And.intro @GAsmIns_set <| And.intro @GAsmIns_rep @GAsmIns_plain
structure GAsm where
  func0 : Int
  code : (List GAsmIns)
  maps : (List (List GI2))
  deriving DecidableEq
def GAsm.cells (m : Md) (x : GAsm) : List D := [.p (.int .i64 x.func0), .row m 5 (Rw (GAsmIns.cells m) x.code), .row m 1 (Rw (cL m 2 GI2.cells) x.maps)]
theorem GAsm_set (l : List GAsm) (i : Nat) (func0_ : Int) (code_ : (List GAsmIns)) (maps_ : (List (List GI2))) : (dd (Rw (GAsm.cells .own) l)).set i [V.d (.p (.int .i64 func0_)), V.d (.row .own 5 (Rw (GAsmIns.cells .own) code_)), V.d (.row .own 1 (Rw (cL .own 2 GI2.cells) maps_))] = dd (Rw (GAsm.cells .own) (l.set i ⟨func0_, code_, maps_⟩)) := Rw_set (f := (GAsm.cells .own)) l i ⟨func0_, code_, maps_⟩
theorem GAsm_Dset (l : List GAsm) (i : Nat) (func0_ : Int) (code_ : (List GAsmIns)) (maps_ : (List (List GI2))) : (Rw (GAsm.cells .own) l).set i [.p (.int .i64 func0_), .row .own 5 (Rw (GAsmIns.cells .own) code_), .row .own 1 (Rw (cL .own 2 GI2.cells) maps_)] = Rw (GAsm.cells .own) (l.set i ⟨func0_, code_, maps_⟩) := (Rw_Dset (f := (GAsm.cells .own)) l i ⟨func0_, code_, maps_⟩)
theorem GAsm_rep (n : Nat) (func0_ : Int) (code_ : (List GAsmIns)) (maps_ : (List (List GI2))) : List.replicate n [.p (.int .i64 func0_), .row .own 5 (Rw (GAsmIns.cells .own) code_), .row .own 1 (Rw (cL .own 2 GI2.cells) maps_)] = Rw (GAsm.cells .own) (List.replicate n ⟨func0_, code_, maps_⟩) := Rw_rep (f := (GAsm.cells .own)) n ⟨func0_, code_, maps_⟩
theorem GAsm_lend (m : Md) (l : List GAsm) : D.lendLL (Rw (GAsm.cells m) l) = Rw (GAsm.cells .bor) l := Rw_lend (fun x => by simp only [GAsm.cells, D.lendL, D.lend, Md.lend, GAsmIns_lend, LGI2_lend]) l
theorem GAsm_nb (l : List GAsm) : D.nbLL (Rw (GAsm.cells .own) l) = true := Rw_nb (fun x => by simp only [GAsm.cells, D.nbL, D.nb, Md.nb, Bool.and_self, GAsmIns_nb, LGI2_nb]) l
theorem GAsm_plain (l : List GAsm) : D.plainRows (Rw (GAsm.cells .bor) l) = True := Rw_plain (fun x => by simp [GAsm.cells, D.lin]) l
def GAsm_e := And.intro @GAsm_set <| And.intro @GAsm_rep @GAsm_plain
structure GI3 where
  a : Int
  b : Int
  c : Int
  deriving DecidableEq
def GI3.cells (x : GI3) : List D := [.p (.int .i64 x.a), .p (.int .i64 x.b), .p (.int .i64 x.c)]
theorem GI3_set (l : List GI3) (i : Nat) (a_ : Int) (b_ : Int) (c_ : Int) : (dd (Rw GI3.cells l)).set i [V.d (.p (.int .i64 a_)), V.d (.p (.int .i64 b_)), V.d (.p (.int .i64 c_))] = dd (Rw GI3.cells (l.set i ⟨a_, b_, c_⟩)) := Rw_set (f := GI3.cells) l i ⟨a_, b_, c_⟩
theorem GI3_Dset (l : List GI3) (i : Nat) (a_ : Int) (b_ : Int) (c_ : Int) : (Rw GI3.cells l).set i [.p (.int .i64 a_), .p (.int .i64 b_), .p (.int .i64 c_)] = Rw GI3.cells (l.set i ⟨a_, b_, c_⟩) := (Rw_Dset (f := GI3.cells) l i ⟨a_, b_, c_⟩)
theorem GI3_rep (n : Nat) (a_ : Int) (b_ : Int) (c_ : Int) : List.replicate n [.p (.int .i64 a_), .p (.int .i64 b_), .p (.int .i64 c_)] = Rw GI3.cells (List.replicate n ⟨a_, b_, c_⟩) := Rw_rep (f := GI3.cells) n ⟨a_, b_, c_⟩
theorem GI3_lend (l : List GI3) : D.lendLL (Rw GI3.cells l) = Rw GI3.cells l := Rw_lend (fun _ => rfl) l
theorem GI3_nb (l : List GI3) : D.nbLL (Rw GI3.cells l) = true := Rw_nb (fun _ => rfl) l
theorem GI3_plain (l : List GI3) : D.plainRows (Rw GI3.cells l) = True := Rw_plain (fun x => by simp [GI3.cells, D.lin]) l
def GI3_e := And.intro @GI3_set <| And.intro @GI3_rep @GI3_plain
theorem ty2 : tyOf Tryz.prog 2 = some ⟨.int IntKind.i64, 1, 8, [Value.int IntKind.i64 0]⟩ := by kernel_rfl
theorem ty3 : tyOf Tryz.prog 3 = some ⟨.int IntKind.i64, 1, 8, [Value.int IntKind.i64 0]⟩ := by kernel_rfl
theorem ty4 : tyOf Tryz.prog 4 = some ⟨.bool, 1, 1, [Value.bool false]⟩ := by kernel_rfl
theorem ty5 : tyOf Tryz.prog 5 = some ⟨.int IntKind.u8, 1, 1, [Value.int IntKind.u8 0]⟩ := by kernel_rfl
theorem ty9 : tyOf Tryz.prog 9 = some ⟨.str, 1, 16, [Value.string { data := #[] }]⟩ := by kernel_rfl
theorem ty22 : tyOf Tryz.prog 22 = some ⟨.slice 69, 1, 24, [Value.slice none 0 0]⟩ := by kernel_rfl
theorem ty24 : tyOf Tryz.prog 24 = some ⟨.struct [(0, 22)], 1, 24, [Value.slice none 0 0]⟩ := by kernel_rfl
theorem ty25 : tyOf Tryz.prog 25 = some ⟨.slice 74, 1, 24, [Value.slice none 0 0]⟩ := by kernel_rfl
theorem ty26 : tyOf Tryz.prog 26 = some ⟨.slice 72, 1, 24, [Value.slice none 0 0]⟩ := by kernel_rfl
theorem ty28 : tyOf Tryz.prog 28 = some ⟨.struct [(0, 2), (1, 25), (2, 26)], 3, 56, [Value.int IntKind.i64 0, Value.slice none 0 0, Value.slice none 0 0]⟩ := by kernel_rfl
theorem ty32 : tyOf Tryz.prog 32 = some ⟨.slice 79, 1, 24, [Value.slice none 0 0]⟩ := by kernel_rfl
theorem ty34 : tyOf Tryz.prog 34 = some ⟨.struct [(0, 32)], 1, 24, [Value.slice none 0 0]⟩ := by kernel_rfl
theorem ty36 : tyOf Tryz.prog 36 = some ⟨.slice 53, 1, 24, [Value.slice none 0 0]⟩ := by kernel_rfl
theorem ty37 : tyOf Tryz.prog 37 = some ⟨.slice 51, 1, 24, [Value.slice none 0 0]⟩ := by kernel_rfl
theorem ty39 : tyOf Tryz.prog 39 = some ⟨.struct [(0, 2), (1, 36), (2, 37)], 3, 56, [Value.int IntKind.i64 0, Value.slice none 0 0, Value.slice none 0 0]⟩ := by kernel_rfl
theorem ty48 : tyOf Tryz.prog 48 = some ⟨.slice 5, 1, 24, [Value.slice none 0 0]⟩ := by kernel_rfl
theorem ty50 : tyOf Tryz.prog 50 = some ⟨.slice 58, 1, 24, [Value.slice none 0 0]⟩ := by kernel_rfl
theorem ty51 : tyOf Tryz.prog 51 = some ⟨.slice 56, 1, 24, [Value.slice none 0 0]⟩ := by kernel_rfl
theorem ty53 : tyOf Tryz.prog 53 = some ⟨.struct [(0, 50), (1, 2), (2, 2), (3, 51), (4, 2)], 5, 72, [Value.slice none 0 0, Value.int IntKind.i64 0, Value.int IntKind.i64 0, Value.slice none 0 0, Value.int IntKind.i64 0]⟩ := by kernel_rfl
theorem ty56 : tyOf Tryz.prog 56 = some ⟨.struct [(0, 2), (1, 2)], 2, 16, [Value.int IntKind.i64 0, Value.int IntKind.i64 0]⟩ := by kernel_rfl
theorem ty58 : tyOf Tryz.prog 58 = some ⟨.struct [(0, 2), (1, 56)], 3, 24, [Value.int IntKind.i64 0, Value.int IntKind.i64 0, Value.int IntKind.i64 0]⟩ := by kernel_rfl
theorem ty67 : tyOf Tryz.prog 67 = some ⟨.slice 132, 1, 24, [Value.slice none 0 0]⟩ := by kernel_rfl
theorem ty69 : tyOf Tryz.prog 69 = some ⟨.struct [(0, 2), (1, 2), (2, 67)], 3, 40, [Value.int IntKind.i64 0, Value.int IntKind.i64 0, Value.slice none 0 0]⟩ := by kernel_rfl
theorem ty71 : tyOf Tryz.prog 71 = some ⟨.slice 135, 1, 24, [Value.slice none 0 0]⟩ := by kernel_rfl
theorem ty72 : tyOf Tryz.prog 72 = some ⟨.slice 113, 1, 24, [Value.slice none 0 0]⟩ := by kernel_rfl
theorem ty74 : tyOf Tryz.prog 74 = some ⟨.struct [(0, 71), (1, 2), (2, 2), (3, 72), (4, 2)], 5, 72, [Value.slice none 0 0, Value.int IntKind.i64 0, Value.int IntKind.i64 0, Value.slice none 0 0, Value.int IntKind.i64 0]⟩ := by kernel_rfl
theorem ty77 : tyOf Tryz.prog 77 = some ⟨.slice 105, 1, 24, [Value.slice none 0 0]⟩ := by kernel_rfl
theorem ty79 : tyOf Tryz.prog 79 = some ⟨.struct [(0, 2), (1, 2), (2, 77)], 3, 40, [Value.int IntKind.i64 0, Value.int IntKind.i64 0, Value.slice none 0 0]⟩ := by kernel_rfl
theorem ty80 : tyOf Tryz.prog 80 = some ⟨.slice 2, 1, 24, [Value.slice none 0 0]⟩ := by kernel_rfl
theorem ty82 : tyOf Tryz.prog 82 = some ⟨.struct [(0, 2), (1, 2), (2, 2)], 3, 24, [Value.int IntKind.i64 0, Value.int IntKind.i64 0, Value.int IntKind.i64 0]⟩ := by kernel_rfl
theorem ty90 : tyOf Tryz.prog 90 = some ⟨.ptr 118, 1, 8, [Value.pointer none]⟩ := by kernel_rfl
theorem ty102 : tyOf Tryz.prog 102 = some ⟨.slice 4, 1, 24, [Value.slice none 0 0]⟩ := by kernel_rfl
theorem ty105 : tyOf Tryz.prog 105 = some ⟨.struct [(0, 2), (1, 2)], 2, 16, [Value.int IntKind.i64 0, Value.int IntKind.i64 0]⟩ := by kernel_rfl
theorem ty109 : tyOf Tryz.prog 109 = some ⟨.slice 9, 1, 24, [Value.slice none 0 0]⟩ := by kernel_rfl
theorem ty113 : tyOf Tryz.prog 113 = some ⟨.struct [(0, 2), (1, 2)], 2, 16, [Value.int IntKind.i64 0, Value.int IntKind.i64 0]⟩ := by kernel_rfl
theorem ty114 : tyOf Tryz.prog 114 = some ⟨.slice 80, 1, 24, [Value.slice none 0 0]⟩ := by kernel_rfl
theorem ty118 : tyOf Tryz.prog 118 = some ⟨.struct [(0, 34), (1, 114)], 2, 48, [Value.slice none 0 0, Value.slice none 0 0]⟩ := by kernel_rfl
theorem ty132 : tyOf Tryz.prog 132 = some ⟨.struct [(0, 2), (1, 2)], 2, 16, [Value.int IntKind.i64 0, Value.int IntKind.i64 0]⟩ := by kernel_rfl
theorem ty135 : tyOf Tryz.prog 135 = some ⟨.struct [(0, 2), (1, 113)], 3, 24, [Value.int IntKind.i64 0, Value.int IntKind.i64 0, Value.int IntKind.i64 0]⟩ := by kernel_rfl
end Go.Proofs.YtfdgjiifeijjfaaGreatDoor
namespace Go.Proofs
open Go.Shelf Go.Sort Go.Lib
def Tryz.laysM173_ren : Go.Shelf.Ren := ⟨fun | 173 => 45 | 246 => 73 | 283 => 92 | 284 => 93 | 285 => 94 | 286 => 95 | 129 => 104 | 317 => 103 | 318 => 105 | 319 => 106 | 320 => 107 | 337 => 109 | 338 => 110 | n => n, fun | 2 => 2 | 3 => 3 | 9 => 9 | 4 => 4 | 171 => 141 | 0 => 0 | 53 => 142 | 37 => 48 | 5 => 5 | 173 => 145 | 212 => 153 | 51 => 154 | 20 => 20 | 213 => 155 | 46 => 157 | 232 => 160 | 233 => 161 | n => n, fun | 17 => 0 | 18 => 1 | 19 => 2 | n => n⟩
theorem Tryz.laysM173 : Go.Proofs.LaysM.n173 Tryz.prog Tryz.laysM173_ren := {
  mixed := by kernel_rfl
  f129 := Tryz.func104.trans (congrArg some (by kernel_rfl))
  f173 := Tryz.func45.trans (congrArg some (by kernel_rfl))
  f246 := Tryz.func73.trans (congrArg some (by kernel_rfl))
  f283 := Tryz.func92.trans (congrArg some (by kernel_rfl))
  f284 := Tryz.func93.trans (congrArg some (by kernel_rfl))
  f285 := Tryz.func94.trans (congrArg some (by kernel_rfl))
  f286 := Tryz.func95.trans (congrArg some (by kernel_rfl))
  f317 := Tryz.func103.trans (congrArg some (by kernel_rfl))
  f318 := Tryz.func105.trans (congrArg some (by kernel_rfl))
  f319 := Tryz.func106.trans (congrArg some (by kernel_rfl))
  f320 := Tryz.func107.trans (congrArg some (by kernel_rfl))
  f337 := Tryz.func109.trans (congrArg some (by kernel_rfl))
  f338 := Tryz.func110.trans (congrArg some (by kernel_rfl))
  t0 := Tryz.underlying0
  a0 := Tryz.isAgg0
  z0 := Tryz.sizeOf0
  v0 := Tryz.zeroValue0
  t2 := Tryz.underlying2
  a2 := Tryz.isAgg2
  z2 := Tryz.sizeOf2
  v2 := Tryz.zeroValue2
  t3 := Tryz.underlying3
  a3 := Tryz.isAgg3
  z3 := Tryz.sizeOf3
  v3 := Tryz.zeroValue3
  t4 := Tryz.underlying4
  a4 := Tryz.isAgg4
  z4 := Tryz.sizeOf4
  v4 := Tryz.zeroValue4
  t5 := Tryz.underlying5
  a5 := Tryz.isAgg5
  z5 := Tryz.sizeOf5
  v5 := Tryz.zeroValue5
  t9 := Tryz.underlying9
  a9 := Tryz.isAgg9
  z9 := Tryz.sizeOf9
  v9 := Tryz.zeroValue9
  t20 := Tryz.underlying20
  a20 := Tryz.isAgg20
  z20 := Tryz.sizeOf20
  v20 := Tryz.zeroValue20
  t37 := Tryz.underlying48
  a37 := Tryz.isAgg48
  z37 := Tryz.sizeOf48
  v37 := Tryz.zeroValue48
  t46 := Tryz.underlying157
  a46 := Tryz.isAgg157
  z46 := Tryz.sizeOf157
  v46 := Tryz.zeroValue157
  t51 := Tryz.underlying154
  a51 := Tryz.isAgg154
  z51 := Tryz.sizeOf154
  v51 := Tryz.zeroValue154
  t53 := Tryz.underlying142
  a53 := Tryz.isAgg142
  z53 := Tryz.sizeOf142
  v53 := Tryz.zeroValue142
  t171 := Tryz.underlying141
  a171 := Tryz.isAgg141
  z171 := Tryz.sizeOf141
  v171 := Tryz.zeroValue141
  t173 := Tryz.underlying145
  a173 := Tryz.isAgg145
  z173 := Tryz.sizeOf145
  v173 := Tryz.zeroValue145
  t212 := Tryz.underlying153
  a212 := Tryz.isAgg153
  z212 := Tryz.sizeOf153
  v212 := Tryz.zeroValue153
  t213 := Tryz.underlying155
  a213 := Tryz.isAgg155
  z213 := Tryz.sizeOf155
  t232 := Tryz.underlying160
  a232 := Tryz.isAgg160
  z232 := Tryz.sizeOf160
  v232 := Tryz.zeroValue160
  t233 := Tryz.underlying161
  a233 := Tryz.isAgg161
  z233 := Tryz.sizeOf161
  v233 := Tryz.zeroValue161
  g17 := by kernel_rfl
  g18 := by kernel_rfl
  g19 := by kernel_rfl
  i0 := by kernel_rfl
  i2 := by kernel_rfl
  i3 := by kernel_rfl
  i4 := by kernel_rfl
  i5 := by kernel_rfl
  i9 := by kernel_rfl
  i20 := by kernel_rfl
  i37 := by kernel_rfl
  i46 := by kernel_rfl
  i51 := by kernel_rfl
  i53 := by kernel_rfl
  i171 := by kernel_rfl
  i173 := by kernel_rfl
  i212 := by kernel_rfl
  i232 := by kernel_rfl
  i233 := by kernel_rfl
  m17 := by kernel_rfl
  m18 := by kernel_rfl
  m19 := by kernel_rfl }
theorem Tryz.strconv_FormatInt_10 (n : Int) (h0 : -9223372036854775808 ≤ n) (h1 : n ≤ 9223372036854775807) (w : World) (htab : Lib.TabIs Tryz.prog w "internal/strconv.uint64pow10" .u64 Lib.pow10Tab) :
    Calls Tryz.prog 45 #[.int .i64 n, .int .i64 10] w fun e w' => e = .returned (.string ⟨(Lib.itoa n).toArray⟩) ∧ ∃ k os, w' = grow (w.drewN k) os := Any.strconv_FormatInt_10 Tryz.laysM173 n h0 h1 w htab
end Go.Proofs