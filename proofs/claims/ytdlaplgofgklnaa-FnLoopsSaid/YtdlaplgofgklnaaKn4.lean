/- WHAT IS PROVED: an abstract walker over the model, what some functions of the program answer, and laws of these answers, one behind the other. Conditions: none. -/
import Derived.Test.YtdlaplgofgklnaaKn3
import Derived.Test.YtdlaplgofgklnaaRows
import Derived.KernelRfl
namespace Go.Proofs.Ytdlaplgofgklnaa
open Go.Proofs Go.Proofs.Ytdlaplgofgklnaa.L
set_option maxHeartbeats 400000
set_option linter.unusedSimpArgs false
set_option linter.unusedVariables false
set_option maxRecDepth 100000
set_option linter.defProp false
theorem mixed : Try.prog.follows .mixedOrders = true := by kernel_rfl
structure GI2 where
  a : Int
  b : Int
  deriving DecidableEq
def GI2.cells (x : GI2) : List D := [.p (.int .i64 x.a), .p (.int .i64 x.b)]
theorem GI2_set (l : List GI2) (i : Nat) (a_ : Int) (b_ : Int) : (dd (Rw GI2.cells l)).set i [V.d (.p (.int .i64 a_)), V.d (.p (.int .i64 b_))] = dd (Rw GI2.cells (l.set i ⟨a_, b_⟩)) := Rw_set (f := GI2.cells) l i ⟨a_, b_⟩
theorem GI2_Dset (l : List GI2) (i : Nat) (a_ : Int) (b_ : Int) : (Rw GI2.cells l).set i [.p (.int .i64 a_), .p (.int .i64 b_)] = Rw GI2.cells (l.set i ⟨a_, b_⟩) := (Rw_Dset (f := GI2.cells) l i ⟨a_, b_⟩)
theorem GI2_one (a_ : Int) (b_ : Int) : [[.p (.int .i64 a_), .p (.int .i64 b_)]] = Rw GI2.cells [⟨a_, b_⟩] := rfl
theorem GI2_cons (l : List GI2) (a_ : Int) (b_ : Int) : [.p (.int .i64 a_), .p (.int .i64 b_)] :: Rw GI2.cells l = Rw GI2.cells (⟨a_, b_⟩ :: l) := rfl
theorem GI2_done (a_ : Int) (b_ : Int) : [[V.d (.p (.int .i64 a_)), V.d (.p (.int .i64 b_))]] = dd (Rw GI2.cells [⟨a_, b_⟩]) := rfl
theorem GI2_dcons (l : List GI2) (a_ : Int) (b_ : Int) : [V.d (.p (.int .i64 a_)), V.d (.p (.int .i64 b_))] :: dd (Rw GI2.cells l) = dd (Rw GI2.cells (⟨a_, b_⟩ :: l)) := rfl
theorem GI2_rep (n : Nat) (a_ : Int) (b_ : Int) : List.replicate n [.p (.int .i64 a_), .p (.int .i64 b_)] = Rw GI2.cells (List.replicate n ⟨a_, b_⟩) := Rw_rep (f := GI2.cells) n ⟨a_, b_⟩
theorem GI2_lend (l : List GI2) : D.lendLL (Rw GI2.cells l) = Rw GI2.cells l := Rw_lend (fun _ => rfl) l
theorem GI2_nb (l : List GI2) : D.nbLL (Rw GI2.cells l) = true := Rw_nb (fun _ => rfl) l
theorem GI2_frz (l : List GI2) : D.frzLL (Rw GI2.cells l) = Rw GI2.cells l := Rw_frz (fun _ => rfl) l
theorem GI2_plain (l : List GI2) : D.plainRows (Rw GI2.cells l) = True := Rw_plain (fun x => by simp [GI2.cells, D.lin]) l
def GI2_e := And.intro @GI2_set <| And.intro @GI2_rep @GI2_plain
def GI2_b := And.intro @GI2_one <| And.intro @GI2_cons <| And.intro @GI2_done @GI2_dcons
structure GFunc where
  args : Int
  locals : Int
  code : (List GI2)
  deriving DecidableEq
def GFunc.cells (m : Md) (x : GFunc) : List D := [.p (.int .i64 x.args), .p (.int .i64 x.locals), .row m 2 (Rw GI2.cells x.code)]
theorem GFunc_set (l : List GFunc) (i : Nat) (args_ : Int) (locals_ : Int) (code_ : (List GI2)) : (dd (Rw (GFunc.cells .own) l)).set i [V.d (.p (.int .i64 args_)), V.d (.p (.int .i64 locals_)), V.d (.row .own 2 (Rw GI2.cells code_))] = dd (Rw (GFunc.cells .own) (l.set i ⟨args_, locals_, code_⟩)) := Rw_set (f := (GFunc.cells .own)) l i ⟨args_, locals_, code_⟩
theorem GFunc_Dset (l : List GFunc) (i : Nat) (args_ : Int) (locals_ : Int) (code_ : (List GI2)) : (Rw (GFunc.cells .own) l).set i [.p (.int .i64 args_), .p (.int .i64 locals_), .row .own 2 (Rw GI2.cells code_)] = Rw (GFunc.cells .own) (l.set i ⟨args_, locals_, code_⟩) := (Rw_Dset (f := (GFunc.cells .own)) l i ⟨args_, locals_, code_⟩)
theorem GFunc_one (args_ : Int) (locals_ : Int) (code_ : (List GI2)) : [[.p (.int .i64 args_), .p (.int .i64 locals_), .row .own 2 (Rw GI2.cells code_)]] = Rw (GFunc.cells .own) [⟨args_, locals_, code_⟩] := rfl
theorem GFunc_cons (l : List GFunc) (args_ : Int) (locals_ : Int) (code_ : (List GI2)) : [.p (.int .i64 args_), .p (.int .i64 locals_), .row .own 2 (Rw GI2.cells code_)] :: Rw (GFunc.cells .own) l = Rw (GFunc.cells .own) (⟨args_, locals_, code_⟩ :: l) := rfl
theorem GFunc_done (args_ : Int) (locals_ : Int) (code_ : (List GI2)) : [[V.d (.p (.int .i64 args_)), V.d (.p (.int .i64 locals_)), V.d (.row .own 2 (Rw GI2.cells code_))]] = dd (Rw (GFunc.cells .own) [⟨args_, locals_, code_⟩]) := rfl
theorem GFunc_dcons (l : List GFunc) (args_ : Int) (locals_ : Int) (code_ : (List GI2)) : [V.d (.p (.int .i64 args_)), V.d (.p (.int .i64 locals_)), V.d (.row .own 2 (Rw GI2.cells code_))] :: dd (Rw (GFunc.cells .own) l) = dd (Rw (GFunc.cells .own) (⟨args_, locals_, code_⟩ :: l)) := rfl
theorem GFunc_rep (n : Nat) (args_ : Int) (locals_ : Int) (code_ : (List GI2)) : List.replicate n [.p (.int .i64 args_), .p (.int .i64 locals_), .row .own 2 (Rw GI2.cells code_)] = Rw (GFunc.cells .own) (List.replicate n ⟨args_, locals_, code_⟩) := Rw_rep (f := (GFunc.cells .own)) n ⟨args_, locals_, code_⟩
theorem GFunc_lend (m : Md) (l : List GFunc) : D.lendLL (Rw (GFunc.cells m) l) = Rw (GFunc.cells .bor) l := Rw_lend (fun x => by simp only [GFunc.cells, D.lendL, D.lend, Md.lend, GI2_lend]) l
theorem GFunc_nb (l : List GFunc) : D.nbLL (Rw (GFunc.cells .own) l) = true := Rw_nb (fun x => by simp only [GFunc.cells, D.nbL, D.nb, Md.nb, Bool.and_self, GI2_nb]) l
theorem GFunc_frz (m : Md) (l : List GFunc) : D.frzLL (Rw (GFunc.cells m) l) = Rw (GFunc.cells m.fz) l := Rw_frz (fun x => by simp only [GFunc.cells, D.frzL, D.frz, GI2_frz]) l
theorem GFunc_fset (l : List GFunc) (i : Nat) (args_ : Int) (locals_ : Int) (code_ : (List GI2)) : (dd (Rw (GFunc.cells .frz) l)).set i [V.d (.p (.int .i64 args_)), V.d (.p (.int .i64 locals_)), V.d (.row .frz 2 (Rw GI2.cells code_))] = dd (Rw (GFunc.cells .frz) (l.set i ⟨args_, locals_, code_⟩)) := Rw_set (f := (GFunc.cells .frz)) l i ⟨args_, locals_, code_⟩
theorem GFunc_fone (args_ : Int) (locals_ : Int) (code_ : (List GI2)) : [[.p (.int .i64 args_), .p (.int .i64 locals_), .row .frz 2 (Rw GI2.cells code_)]] = Rw (GFunc.cells .frz) [⟨args_, locals_, code_⟩] := rfl
theorem GFunc_fcons (l : List GFunc) (args_ : Int) (locals_ : Int) (code_ : (List GI2)) : [.p (.int .i64 args_), .p (.int .i64 locals_), .row .frz 2 (Rw GI2.cells code_)] :: Rw (GFunc.cells .frz) l = Rw (GFunc.cells .frz) (⟨args_, locals_, code_⟩ :: l) := rfl
theorem GFunc_fdone (args_ : Int) (locals_ : Int) (code_ : (List GI2)) : [[V.d (.p (.int .i64 args_)), V.d (.p (.int .i64 locals_)), V.d (.row .frz 2 (Rw GI2.cells code_))]] = dd (Rw (GFunc.cells .frz) [⟨args_, locals_, code_⟩]) := rfl
theorem GFunc_fdcons (l : List GFunc) (args_ : Int) (locals_ : Int) (code_ : (List GI2)) : [V.d (.p (.int .i64 args_)), V.d (.p (.int .i64 locals_)), V.d (.row .frz 2 (Rw GI2.cells code_))] :: dd (Rw (GFunc.cells .frz) l) = dd (Rw (GFunc.cells .frz) (⟨args_, locals_, code_⟩ :: l)) := rfl
theorem GFunc_plain (l : List GFunc) : D.plainRows (Rw (GFunc.cells .bor) l) = True := Rw_plain (fun x => by simp [GFunc.cells, D.lin]) l
def GFunc_e := And.intro @GFunc_set <| And.intro @GFunc_rep @GFunc_plain
def GFunc_b := And.intro @GFunc_one <| And.intro @GFunc_cons <| And.intro @GFunc_done @GFunc_dcons
structure GProgram where
  funcs : (List GFunc)
  deriving DecidableEq
def GProgram.cells (m : Md) (x : GProgram) : List D := [.row m 3 (Rw (GFunc.cells m) x.funcs)]
theorem GProgram_set (l : List GProgram) (i : Nat) (funcs_ : (List GFunc)) : (dd (Rw (GProgram.cells .own) l)).set i [V.d (.row .own 3 (Rw (GFunc.cells .own) funcs_))] = dd (Rw (GProgram.cells .own) (l.set i ⟨funcs_⟩)) := Rw_set (f := (GProgram.cells .own)) l i ⟨funcs_⟩
theorem GProgram_Dset (l : List GProgram) (i : Nat) (funcs_ : (List GFunc)) : (Rw (GProgram.cells .own) l).set i [.row .own 3 (Rw (GFunc.cells .own) funcs_)] = Rw (GProgram.cells .own) (l.set i ⟨funcs_⟩) := (Rw_Dset (f := (GProgram.cells .own)) l i ⟨funcs_⟩)
theorem GProgram_one (funcs_ : (List GFunc)) : [[.row .own 3 (Rw (GFunc.cells .own) funcs_)]] = Rw (GProgram.cells .own) [⟨funcs_⟩] := rfl
theorem GProgram_cons (l : List GProgram) (funcs_ : (List GFunc)) : [.row .own 3 (Rw (GFunc.cells .own) funcs_)] :: Rw (GProgram.cells .own) l = Rw (GProgram.cells .own) (⟨funcs_⟩ :: l) := rfl
theorem GProgram_done (funcs_ : (List GFunc)) : [[V.d (.row .own 3 (Rw (GFunc.cells .own) funcs_))]] = dd (Rw (GProgram.cells .own) [⟨funcs_⟩]) := rfl
theorem GProgram_dcons (l : List GProgram) (funcs_ : (List GFunc)) : [V.d (.row .own 3 (Rw (GFunc.cells .own) funcs_))] :: dd (Rw (GProgram.cells .own) l) = dd (Rw (GProgram.cells .own) (⟨funcs_⟩ :: l)) := rfl
theorem GProgram_rep (n : Nat) (funcs_ : (List GFunc)) : List.replicate n [.row .own 3 (Rw (GFunc.cells .own) funcs_)] = Rw (GProgram.cells .own) (List.replicate n ⟨funcs_⟩) := Rw_rep (f := (GProgram.cells .own)) n ⟨funcs_⟩
theorem GProgram_lend (m : Md) (l : List GProgram) : D.lendLL (Rw (GProgram.cells m) l) = Rw (GProgram.cells .bor) l := Rw_lend (fun x => by simp only [GProgram.cells, D.lendL, D.lend, Md.lend, GFunc_lend]) l
theorem GProgram_nb (l : List GProgram) : D.nbLL (Rw (GProgram.cells .own) l) = true := Rw_nb (fun x => by simp only [GProgram.cells, D.nbL, D.nb, Md.nb, Bool.and_self, GFunc_nb]) l
theorem GProgram_frz (m : Md) (l : List GProgram) : D.frzLL (Rw (GProgram.cells m) l) = Rw (GProgram.cells m.fz) l := Rw_frz (fun x => by simp only [GProgram.cells, D.frzL, D.frz, GFunc_frz]) l
theorem GProgram_fset (l : List GProgram) (i : Nat) (funcs_ : (List GFunc)) : (dd (Rw (GProgram.cells .frz) l)).set i [V.d (.row .frz 3 (Rw (GFunc.cells .frz) funcs_))] = dd (Rw (GProgram.cells .frz) (l.set i ⟨funcs_⟩)) := Rw_set (f := (GProgram.cells .frz)) l i ⟨funcs_⟩
theorem GProgram_fone (funcs_ : (List GFunc)) : [[.row .frz 3 (Rw (GFunc.cells .frz) funcs_)]] = Rw (GProgram.cells .frz) [⟨funcs_⟩] := rfl
theorem GProgram_fcons (l : List GProgram) (funcs_ : (List GFunc)) : [.row .frz 3 (Rw (GFunc.cells .frz) funcs_)] :: Rw (GProgram.cells .frz) l = Rw (GProgram.cells .frz) (⟨funcs_⟩ :: l) := rfl
theorem GProgram_fdone (funcs_ : (List GFunc)) : [[V.d (.row .frz 3 (Rw (GFunc.cells .frz) funcs_))]] = dd (Rw (GProgram.cells .frz) [⟨funcs_⟩]) := rfl
theorem GProgram_fdcons (l : List GProgram) (funcs_ : (List GFunc)) : [V.d (.row .frz 3 (Rw (GFunc.cells .frz) funcs_))] :: dd (Rw (GProgram.cells .frz) l) = dd (Rw (GProgram.cells .frz) (⟨funcs_⟩ :: l)) := rfl
theorem GProgram_plain (l : List GProgram) : D.plainRows (Rw (GProgram.cells .bor) l) = True := Rw_plain (fun x => by simp [GProgram.cells, D.lin]) l
def GProgram_e := And.intro @GProgram_set <| And.intro @GProgram_rep @GProgram_plain
def GProgram_b := And.intro @GProgram_one <| And.intro @GProgram_cons <| And.intro @GProgram_done @GProgram_dcons
theorem LcIi64_set (l : List (List Int)) (i : Nat) (x : (List Int)) : (dd (Rw (cL .own 1 (cI .i64)) l)).set i [V.d (.row .own 1 (Rw (cI .i64) x))] = dd (Rw (cL .own 1 (cI .i64)) (l.set i x)) := Rw_set (f := (cL .own 1 (cI .i64))) l i x
theorem LcIi64_Dset (l : List (List Int)) (i : Nat) (x : (List Int)) : (Rw (cL .own 1 (cI .i64)) l).set i [.row .own 1 (Rw (cI .i64) x)] = Rw (cL .own 1 (cI .i64)) (l.set i x) := Rw_Dset (f := (cL .own 1 (cI .i64))) l i x
theorem LcIi64_one (x : (List Int)) : [[.row .own 1 (Rw (cI .i64) x)]] = Rw (cL .own 1 (cI .i64)) [x] := rfl
theorem LcIi64_cons (l : List (List Int)) (x : (List Int)) : [.row .own 1 (Rw (cI .i64) x)] :: Rw (cL .own 1 (cI .i64)) l = Rw (cL .own 1 (cI .i64)) (x :: l) := rfl
theorem LcIi64_done (x : (List Int)) : [[V.d (.row .own 1 (Rw (cI .i64) x))]] = dd (Rw (cL .own 1 (cI .i64)) [x]) := rfl
theorem LcIi64_dcons (l : List (List Int)) (x : (List Int)) : [V.d (.row .own 1 (Rw (cI .i64) x))] :: dd (Rw (cL .own 1 (cI .i64)) l) = dd (Rw (cL .own 1 (cI .i64)) (x :: l)) := rfl
theorem LcIi64_rep (n : Nat) (x : (List Int)) : List.replicate n [.row .own 1 (Rw (cI .i64) x)] = Rw (cL .own 1 (cI .i64)) (List.replicate n x) := Rw_rep (f := (cL .own 1 (cI .i64))) n x
theorem LcIi64_lend (m : Md) (l : List (List Int)) : D.lendLL (Rw (cL m 1 (cI .i64)) l) = Rw (cL .bor 1 (cI .i64)) l := Rw_lend (fun x => by simp only [cL, D.lendL, D.lend, Md.lend, cI_lend]) l
theorem LcIi64_frz (m : Md) (l : List (List Int)) : D.frzLL (Rw (cL m 1 (cI .i64)) l) = Rw (cL m.fz 1 (cI .i64)) l := Rw_frz (fun x => by simp only [cL, D.frzL, D.frz, cI_frz]) l
theorem LcIi64_nb (l : List (List Int)) : D.nbLL (Rw (cL .own 1 (cI .i64)) l) = true := Rw_nb (fun x => by simp only [cL, D.nbL, D.nb, Md.nb, Bool.and_self, cI_nb]) l
theorem LcIi64_plain (l : List (List Int)) : D.plainRows (Rw (cL .bor 1 (cI .i64)) l) = True := Rw_plain (fun x => by simp [cL, D.lin]) l
def LcIi64_e := And.intro @LcIi64_set <| And.intro @LcIi64_rep @LcIi64_plain
def LcIi64_b := And.intro @LcIi64_one <| And.intro @LcIi64_cons <| And.intro @LcIi64_done @LcIi64_dcons
structure Gprog where
  program : GProgram
  h : (List (List Int))
  deriving DecidableEq
def Gprog.cells (m : Md) (x : Gprog) : List D := [.row m 3 (Rw (GFunc.cells m) x.program.funcs), .row m 1 (Rw (cL m 1 (cI .i64)) x.h)]
theorem Gprog_set (l : List Gprog) (i : Nat) (program_funcs_ : (List GFunc)) (h_ : (List (List Int))) : (dd (Rw (Gprog.cells .own) l)).set i [V.d (.row .own 3 (Rw (GFunc.cells .own) program_funcs_)), V.d (.row .own 1 (Rw (cL .own 1 (cI .i64)) h_))] = dd (Rw (Gprog.cells .own) (l.set i ⟨⟨program_funcs_⟩, h_⟩)) := Rw_set (f := (Gprog.cells .own)) l i ⟨⟨program_funcs_⟩, h_⟩
theorem Gprog_one (program_funcs_ : (List GFunc)) (h_ : (List (List Int))) : [[.row .own 3 (Rw (GFunc.cells .own) program_funcs_), .row .own 1 (Rw (cL .own 1 (cI .i64)) h_)]] = Rw (Gprog.cells .own) [⟨⟨program_funcs_⟩, h_⟩] := rfl
theorem Gprog_cons (l : List Gprog) (program_funcs_ : (List GFunc)) (h_ : (List (List Int))) : [.row .own 3 (Rw (GFunc.cells .own) program_funcs_), .row .own 1 (Rw (cL .own 1 (cI .i64)) h_)] :: Rw (Gprog.cells .own) l = Rw (Gprog.cells .own) (⟨⟨program_funcs_⟩, h_⟩ :: l) := rfl
theorem Gprog_done (program_funcs_ : (List GFunc)) (h_ : (List (List Int))) : [[V.d (.row .own 3 (Rw (GFunc.cells .own) program_funcs_)), V.d (.row .own 1 (Rw (cL .own 1 (cI .i64)) h_))]] = dd (Rw (Gprog.cells .own) [⟨⟨program_funcs_⟩, h_⟩]) := rfl
theorem Gprog_dcons (l : List Gprog) (program_funcs_ : (List GFunc)) (h_ : (List (List Int))) : [V.d (.row .own 3 (Rw (GFunc.cells .own) program_funcs_)), V.d (.row .own 1 (Rw (cL .own 1 (cI .i64)) h_))] :: dd (Rw (Gprog.cells .own) l) = dd (Rw (Gprog.cells .own) (⟨⟨program_funcs_⟩, h_⟩ :: l)) := rfl
theorem Gprog_rep (n : Nat) (program_funcs_ : (List GFunc)) (h_ : (List (List Int))) : List.replicate n [.row .own 3 (Rw (GFunc.cells .own) program_funcs_), .row .own 1 (Rw (cL .own 1 (cI .i64)) h_)] = Rw (Gprog.cells .own) (List.replicate n ⟨⟨program_funcs_⟩, h_⟩) := Rw_rep (f := (Gprog.cells .own)) n ⟨⟨program_funcs_⟩, h_⟩
theorem Gprog_lend (m : Md) (l : List Gprog) : D.lendLL (Rw (Gprog.cells m) l) = Rw (Gprog.cells .bor) l := Rw_lend (fun x => by simp only [Gprog.cells, D.lendL, D.lend, Md.lend, GFunc_lend, LcIi64_lend]) l
theorem Gprog_nb (l : List Gprog) : D.nbLL (Rw (Gprog.cells .own) l) = true := Rw_nb (fun x => by simp only [Gprog.cells, D.nbL, D.nb, Md.nb, Bool.and_self, GFunc_nb, LcIi64_nb]) l
theorem Gprog_plain (l : List Gprog) : D.plainRows (Rw (Gprog.cells .bor) l) = True := Rw_plain (fun x => by simp [Gprog.cells, D.lin]) l
def Gprog_e := And.intro @Gprog_set <| And.intro @Gprog_rep @Gprog_plain
def Gprog_b := And.intro @Gprog_one <| And.intro @Gprog_cons <| And.intro @Gprog_done @Gprog_dcons
structure GI3 where
  a : Int
  b : Int
  c : Int
  deriving DecidableEq
def GI3.cells (x : GI3) : List D := [.p (.int .i64 x.a), .p (.int .i64 x.b), .p (.int .i64 x.c)]
theorem GI3_set (l : List GI3) (i : Nat) (a_ : Int) (b_ : Int) (c_ : Int) : (dd (Rw GI3.cells l)).set i [V.d (.p (.int .i64 a_)), V.d (.p (.int .i64 b_)), V.d (.p (.int .i64 c_))] = dd (Rw GI3.cells (l.set i ⟨a_, b_, c_⟩)) := Rw_set (f := GI3.cells) l i ⟨a_, b_, c_⟩
theorem GI3_Dset (l : List GI3) (i : Nat) (a_ : Int) (b_ : Int) (c_ : Int) : (Rw GI3.cells l).set i [.p (.int .i64 a_), .p (.int .i64 b_), .p (.int .i64 c_)] = Rw GI3.cells (l.set i ⟨a_, b_, c_⟩) := (Rw_Dset (f := GI3.cells) l i ⟨a_, b_, c_⟩)
theorem GI3_one (a_ : Int) (b_ : Int) (c_ : Int) : [[.p (.int .i64 a_), .p (.int .i64 b_), .p (.int .i64 c_)]] = Rw GI3.cells [⟨a_, b_, c_⟩] := rfl
theorem GI3_cons (l : List GI3) (a_ : Int) (b_ : Int) (c_ : Int) : [.p (.int .i64 a_), .p (.int .i64 b_), .p (.int .i64 c_)] :: Rw GI3.cells l = Rw GI3.cells (⟨a_, b_, c_⟩ :: l) := rfl
theorem GI3_done (a_ : Int) (b_ : Int) (c_ : Int) : [[V.d (.p (.int .i64 a_)), V.d (.p (.int .i64 b_)), V.d (.p (.int .i64 c_))]] = dd (Rw GI3.cells [⟨a_, b_, c_⟩]) := rfl
theorem GI3_dcons (l : List GI3) (a_ : Int) (b_ : Int) (c_ : Int) : [V.d (.p (.int .i64 a_)), V.d (.p (.int .i64 b_)), V.d (.p (.int .i64 c_))] :: dd (Rw GI3.cells l) = dd (Rw GI3.cells (⟨a_, b_, c_⟩ :: l)) := rfl
theorem GI3_rep (n : Nat) (a_ : Int) (b_ : Int) (c_ : Int) : List.replicate n [.p (.int .i64 a_), .p (.int .i64 b_), .p (.int .i64 c_)] = Rw GI3.cells (List.replicate n ⟨a_, b_, c_⟩) := Rw_rep (f := GI3.cells) n ⟨a_, b_, c_⟩
theorem GI3_lend (l : List GI3) : D.lendLL (Rw GI3.cells l) = Rw GI3.cells l := Rw_lend (fun _ => rfl) l
theorem GI3_nb (l : List GI3) : D.nbLL (Rw GI3.cells l) = true := Rw_nb (fun _ => rfl) l
theorem GI3_plain (l : List GI3) : D.plainRows (Rw GI3.cells l) = True := Rw_plain (fun x => by simp [GI3.cells, D.lin]) l
def GI3_e := And.intro @GI3_set <| And.intro @GI3_rep @GI3_plain
def GI3_b := And.intro @GI3_one <| And.intro @GI3_cons <| And.intro @GI3_done @GI3_dcons
structure Gl01Src where
  b : (List Int)
  at0 : Int
  mix : Int
  size : Int
  deriving DecidableEq
def Gl01Src.cells (m : Md) (x : Gl01Src) : List D := [.row m 1 (Rw (cI .u8) x.b), .p (.int .i64 x.at0), .p (.int .u64 x.mix), .p (.int .i64 x.size)]
theorem Gl01Src_set (l : List Gl01Src) (i : Nat) (b_ : (List Int)) (at0_ : Int) (mix_ : Int) (size_ : Int) : (dd (Rw (Gl01Src.cells .own) l)).set i [V.d (.row .own 1 (Rw (cI .u8) b_)), V.d (.p (.int .i64 at0_)), V.d (.p (.int .u64 mix_)), V.d (.p (.int .i64 size_))] = dd (Rw (Gl01Src.cells .own) (l.set i ⟨b_, at0_, mix_, size_⟩)) := Rw_set (f := (Gl01Src.cells .own)) l i ⟨b_, at0_, mix_, size_⟩
theorem Gl01Src_Dset (l : List Gl01Src) (i : Nat) (b_ : (List Int)) (at0_ : Int) (mix_ : Int) (size_ : Int) : (Rw (Gl01Src.cells .own) l).set i [.row .own 1 (Rw (cI .u8) b_), .p (.int .i64 at0_), .p (.int .u64 mix_), .p (.int .i64 size_)] = Rw (Gl01Src.cells .own) (l.set i ⟨b_, at0_, mix_, size_⟩) := (Rw_Dset (f := (Gl01Src.cells .own)) l i ⟨b_, at0_, mix_, size_⟩)
theorem Gl01Src_one (b_ : (List Int)) (at0_ : Int) (mix_ : Int) (size_ : Int) : [[.row .own 1 (Rw (cI .u8) b_), .p (.int .i64 at0_), .p (.int .u64 mix_), .p (.int .i64 size_)]] = Rw (Gl01Src.cells .own) [⟨b_, at0_, mix_, size_⟩] := rfl
theorem Gl01Src_cons (l : List Gl01Src) (b_ : (List Int)) (at0_ : Int) (mix_ : Int) (size_ : Int) : [.row .own 1 (Rw (cI .u8) b_), .p (.int .i64 at0_), .p (.int .u64 mix_), .p (.int .i64 size_)] :: Rw (Gl01Src.cells .own) l = Rw (Gl01Src.cells .own) (⟨b_, at0_, mix_, size_⟩ :: l) := rfl
theorem Gl01Src_done (b_ : (List Int)) (at0_ : Int) (mix_ : Int) (size_ : Int) : [[V.d (.row .own 1 (Rw (cI .u8) b_)), V.d (.p (.int .i64 at0_)), V.d (.p (.int .u64 mix_)), V.d (.p (.int .i64 size_))]] = dd (Rw (Gl01Src.cells .own) [⟨b_, at0_, mix_, size_⟩]) := rfl
theorem Gl01Src_dcons (l : List Gl01Src) (b_ : (List Int)) (at0_ : Int) (mix_ : Int) (size_ : Int) : [V.d (.row .own 1 (Rw (cI .u8) b_)), V.d (.p (.int .i64 at0_)), V.d (.p (.int .u64 mix_)), V.d (.p (.int .i64 size_))] :: dd (Rw (Gl01Src.cells .own) l) = dd (Rw (Gl01Src.cells .own) (⟨b_, at0_, mix_, size_⟩ :: l)) := rfl
theorem Gl01Src_rep (n : Nat) (b_ : (List Int)) (at0_ : Int) (mix_ : Int) (size_ : Int) : List.replicate n [.row .own 1 (Rw (cI .u8) b_), .p (.int .i64 at0_), .p (.int .u64 mix_), .p (.int .i64 size_)] = Rw (Gl01Src.cells .own) (List.replicate n ⟨b_, at0_, mix_, size_⟩) := Rw_rep (f := (Gl01Src.cells .own)) n ⟨b_, at0_, mix_, size_⟩
theorem Gl01Src_lend (m : Md) (l : List Gl01Src) : D.lendLL (Rw (Gl01Src.cells m) l) = Rw (Gl01Src.cells .bor) l := Rw_lend (fun x => by simp only [Gl01Src.cells, D.lendL, D.lend, Md.lend, cI_lend]) l
theorem Gl01Src_nb (l : List Gl01Src) : D.nbLL (Rw (Gl01Src.cells .own) l) = true := Rw_nb (fun x => by simp only [Gl01Src.cells, D.nbL, D.nb, Md.nb, Bool.and_self, cI_nb]) l
theorem Gl01Src_frz (m : Md) (l : List Gl01Src) : D.frzLL (Rw (Gl01Src.cells m) l) = Rw (Gl01Src.cells m.fz) l := Rw_frz (fun x => by simp only [Gl01Src.cells, D.frzL, D.frz, cI_frz]) l
theorem Gl01Src_fset (l : List Gl01Src) (i : Nat) (b_ : (List Int)) (at0_ : Int) (mix_ : Int) (size_ : Int) : (dd (Rw (Gl01Src.cells .frz) l)).set i [V.d (.row .frz 1 (Rw (cI .u8) b_)), V.d (.p (.int .i64 at0_)), V.d (.p (.int .u64 mix_)), V.d (.p (.int .i64 size_))] = dd (Rw (Gl01Src.cells .frz) (l.set i ⟨b_, at0_, mix_, size_⟩)) := Rw_set (f := (Gl01Src.cells .frz)) l i ⟨b_, at0_, mix_, size_⟩
theorem Gl01Src_fone (b_ : (List Int)) (at0_ : Int) (mix_ : Int) (size_ : Int) : [[.row .frz 1 (Rw (cI .u8) b_), .p (.int .i64 at0_), .p (.int .u64 mix_), .p (.int .i64 size_)]] = Rw (Gl01Src.cells .frz) [⟨b_, at0_, mix_, size_⟩] := rfl
theorem Gl01Src_fcons (l : List Gl01Src) (b_ : (List Int)) (at0_ : Int) (mix_ : Int) (size_ : Int) : [.row .frz 1 (Rw (cI .u8) b_), .p (.int .i64 at0_), .p (.int .u64 mix_), .p (.int .i64 size_)] :: Rw (Gl01Src.cells .frz) l = Rw (Gl01Src.cells .frz) (⟨b_, at0_, mix_, size_⟩ :: l) := rfl
theorem Gl01Src_fdone (b_ : (List Int)) (at0_ : Int) (mix_ : Int) (size_ : Int) : [[V.d (.row .frz 1 (Rw (cI .u8) b_)), V.d (.p (.int .i64 at0_)), V.d (.p (.int .u64 mix_)), V.d (.p (.int .i64 size_))]] = dd (Rw (Gl01Src.cells .frz) [⟨b_, at0_, mix_, size_⟩]) := rfl
theorem Gl01Src_fdcons (l : List Gl01Src) (b_ : (List Int)) (at0_ : Int) (mix_ : Int) (size_ : Int) : [V.d (.row .frz 1 (Rw (cI .u8) b_)), V.d (.p (.int .i64 at0_)), V.d (.p (.int .u64 mix_)), V.d (.p (.int .i64 size_))] :: dd (Rw (Gl01Src.cells .frz) l) = dd (Rw (Gl01Src.cells .frz) (⟨b_, at0_, mix_, size_⟩ :: l)) := rfl
theorem Gl01Src_plain (l : List Gl01Src) : D.plainRows (Rw (Gl01Src.cells .bor) l) = True := Rw_plain (fun x => by simp [Gl01Src.cells, D.lin]) l
def Gl01Src_e := And.intro @Gl01Src_set <| And.intro @Gl01Src_rep @Gl01Src_plain
def Gl01Src_b := And.intro @Gl01Src_one <| And.intro @Gl01Src_cons <| And.intro @Gl01Src_done @Gl01Src_dcons
structure GerrorAddressString where
  msg : ByteArray
  addr : Int
  deriving DecidableEq
def GerrorAddressString.cells (x : GerrorAddressString) : List D := [.p (.string x.msg), .p (.int .u64 x.addr)]
structure Gl03Gen where
  s : Gl01Src
  args : (List Int)
  locals : Int
  code : (List GI2)
  most : Int
  deriving DecidableEq
theorem ty2 : tyOf Try.prog 2 = some ⟨.int IntKind.i64, 1, 8, [Value.int IntKind.i64 0]⟩ := by kernel_rfl
theorem ty3 : tyOf Try.prog 3 = some ⟨.int IntKind.i64, 1, 8, [Value.int IntKind.i64 0]⟩ := by kernel_rfl
theorem ty4 : tyOf Try.prog 4 = some ⟨.bool, 1, 1, [Value.bool false]⟩ := by kernel_rfl
theorem ty5 : tyOf Try.prog 5 = some ⟨.int IntKind.u8, 1, 1, [Value.int IntKind.u8 0]⟩ := by kernel_rfl
theorem ty9 : tyOf Try.prog 9 = some ⟨.str, 1, 16, [Value.string { data := #[] }]⟩ := by kernel_rfl
theorem ty10 : tyOf Try.prog 10 = some ⟨.str, 1, 16, [Value.string { data := #[] }]⟩ := by kernel_rfl
theorem ty12 : tyOf Try.prog 12 = some ⟨.int IntKind.u64, 1, 8, [Value.int IntKind.u64 0]⟩ := by kernel_rfl
theorem ty14 : tyOf Try.prog 14 = some ⟨.struct [(0, 9), (1, 12)], 2, 24, [Value.string { data := #[] }, Value.int IntKind.u64 0]⟩ := by kernel_rfl
theorem ty26 : tyOf Try.prog 26 = some ⟨.slice 2, 1, 24, [Value.slice none 0 0]⟩ := by kernel_rfl
theorem ty28 : tyOf Try.prog 28 = some ⟨.slice 65, 1, 24, [Value.slice none 0 0]⟩ := by kernel_rfl
theorem ty29 : tyOf Try.prog 29 = some ⟨.struct [(0, 28)], 1, 24, [Value.slice none 0 0]⟩ := by kernel_rfl
theorem ty30 : tyOf Try.prog 30 = some ⟨.struct [(0, 28)], 1, 24, [Value.slice none 0 0]⟩ := by kernel_rfl
theorem ty37 : tyOf Try.prog 37 = some ⟨.slice 5, 1, 24, [Value.slice none 0 0]⟩ := by kernel_rfl
theorem ty41 : tyOf Try.prog 41 = some ⟨.int IntKind.u64, 1, 8, [Value.int IntKind.u64 0]⟩ := by kernel_rfl
theorem ty44 : tyOf Try.prog 44 = some ⟨.slice 49, 1, 24, [Value.slice none 0 0]⟩ := by kernel_rfl
theorem ty49 : tyOf Try.prog 49 = some ⟨.struct [(0, 2), (1, 2), (2, 2)], 3, 24, [Value.int IntKind.i64 0, Value.int IntKind.i64 0, Value.int IntKind.i64 0]⟩ := by kernel_rfl
theorem ty53 : tyOf Try.prog 53 = some ⟨.slice 26, 1, 24, [Value.slice none 0 0]⟩ := by kernel_rfl
theorem ty63 : tyOf Try.prog 63 = some ⟨.slice 107, 1, 24, [Value.slice none 0 0]⟩ := by kernel_rfl
theorem ty65 : tyOf Try.prog 65 = some ⟨.struct [(0, 2), (1, 2), (2, 63)], 3, 40, [Value.int IntKind.i64 0, Value.int IntKind.i64 0, Value.slice none 0 0]⟩ := by kernel_rfl
theorem ty68 : tyOf Try.prog 68 = some ⟨.ptr 122, 1, 8, [Value.pointer none]⟩ := by kernel_rfl
theorem ty77 : tyOf Try.prog 77 = some ⟨.struct [(0, 2), (1, 2), (2, 2)], 3, 24, [Value.int IntKind.i64 0, Value.int IntKind.i64 0, Value.int IntKind.i64 0]⟩ := by kernel_rfl
theorem ty107 : tyOf Try.prog 107 = some ⟨.struct [(0, 2), (1, 2)], 2, 16, [Value.int IntKind.i64 0, Value.int IntKind.i64 0]⟩ := by kernel_rfl
theorem ty113 : tyOf Try.prog 113 = some ⟨.ptr 139, 1, 8, [Value.pointer none]⟩ := by kernel_rfl
theorem ty117 : tyOf Try.prog 117 = some ⟨.slice 4, 1, 24, [Value.slice none 0 0]⟩ := by kernel_rfl
theorem ty122 : tyOf Try.prog 122 = some ⟨.struct [(0, 30), (1, 53)], 2, 48, [Value.slice none 0 0, Value.slice none 0 0]⟩ := by kernel_rfl
theorem ty139 : tyOf Try.prog 139 = some ⟨.struct [(0, 37), (1, 3), (2, 41), (3, 2)], 4, 48, [Value.slice none 0 0, Value.int IntKind.i64 0, Value.int IntKind.u64 0, Value.int IntKind.i64 0]⟩ := by kernel_rfl
theorem ty140 : tyOf Try.prog 140 = some ⟨.ptr 143, 1, 8, [Value.pointer none]⟩ := by kernel_rfl
theorem ty143 : tyOf Try.prog 143 = some ⟨.struct [(0, 113), (1, 26), (2, 2), (3, 63), (4, 3)], 5, 72, [Value.pointer none, Value.slice none 0 0, Value.int IntKind.i64 0, Value.slice none 0 0, Value.int IntKind.i64 0]⟩ := by kernel_rfl
theorem ty147 : tyOf Try.prog 147 = some ⟨.ptr 30, 1, 8, [Value.pointer none]⟩ := by kernel_rfl
theorem ty177 : tyOf Try.prog 177 = some ⟨.slice 9, 1, 24, [Value.slice none 0 0]⟩ := by kernel_rfl
end Go.Proofs.Ytdlaplgofgklnaa
namespace Go.Proofs.Ytdlaplgofgklnaa
open Go.Proofs Go.Proofs.Ytdlaplgofgklnaa.L
set_option maxHeartbeats 1000000
set_option linter.unusedSimpArgs false
set_option linter.unusedVariables false
set_option maxRecDepth 100000
def laws_szInsS (p0 : (List GI2)) (p1 : Int) : Option (Int) :=
  cond ((decide (((IntKind.i64.wrap (p1 - ((p0.length : Int))))) < 0))) (some ((-1))) (some ((IntKind.i64.wrap (p1 - ((p0.length : Int))))))
def laws_szFunc (p0 : GFunc) (p1 : Int) : Option (Int) :=
  (laws_szInsS p0.code p1).bind fun t1 => cond ((decide (t1 < 0))) (some ((-1))) (some t1)
def laws_szFuncS.l1 : Nat → (List GFunc) → Int → Int → Option ((Int) ⊕ (Int))
  | 0, _, _, _ => none
  | k + 1, a1, a2, a3 => cond ((decide (a3 < ((a1.length : Int))))) ((idx a1 a3).bind fun m1 => (laws_szFunc m1 a2).bind fun t2 => cond ((decide (t2 < 0))) (some (.inl ((-1)))) (laws_szFuncS.l1 k a1 t2 ((IntKind.i64.wrap (a3 + 1))))) (some (.inr (a2)))
def laws_szFuncS (k : Nat) (p0 : (List GFunc)) (p1 : Int) : Option (Int) :=
  cond ((decide (((IntKind.i64.wrap (p1 - ((p0.length : Int))))) < 0))) (some ((-1))) ((laws_szFuncS.l1 k p0 ((IntKind.i64.wrap (p1 - ((p0.length : Int))))) 0).bind fun o1 => Sum.elim (fun o1l => some o1l) (fun o1r => some o1r) o1)
def laws_szProgram (k : Nat) (p0 : GProgram) (p1 : Int) : Option (Int) :=
  (laws_szFuncS k p0.funcs p1).bind fun t1 => cond ((decide (t1 < 0))) (some ((-1))) (some t1)
def laws_toIns (p0 : GI2) : Option (GI2) :=
  some p0
def laws_toInsS.l1 : Nat → (List GI2) → (List GI2) → Int → Option ((List GI2))
  | 0, _, _, _ => none
  | k + 1, a1, a2, a3 => cond ((decide (a3 < ((a2.length : Int))))) ((idx a2 a3).bind fun m1 => (laws_toIns m1).bind fun t2 => (idx a1 a3).bind fun m3 => laws_toInsS.l1 k ((a1.set a3.toNat t2)) a2 ((IntKind.i64.wrap (a3 + 1)))) (some (a1))
def laws_toInsS (k : Nat) (p0 : (List GI2)) : Option ((List GI2)) :=
  gd (0 ≤ (p0.length : Int) ∧ ((p0.length : Int)) * 16 ≤ 35184372088832 ∧ (p0.length : Int) ≤ 35184372088832) ((laws_toInsS.l1 k ((List.replicate p0.length (⟨0, 0⟩))) p0 0).bind fun o1 => some o1)
def laws_toFunc (k : Nat) (p0 : GFunc) : Option (GFunc) :=
  (laws_toInsS k p0.code).bind fun t1 => some ((⟨p0.args, p0.locals, t1⟩ : GFunc))
def laws_toFuncS.l1 : Nat → (List GFunc) → (List GFunc) → Int → Option ((List GFunc))
  | 0, _, _, _ => none
  | k + 1, a1, a2, a3 => cond ((decide (a3 < ((a2.length : Int))))) ((idx a2 a3).bind fun m1 => (laws_toFunc k m1).bind fun t2 => (idx a1 a3).bind fun m3 => laws_toFuncS.l1 k ((a1.set a3.toNat t2)) a2 ((IntKind.i64.wrap (a3 + 1)))) (some (a1))
def laws_toFuncS (k : Nat) (p0 : (List GFunc)) : Option ((List GFunc)) :=
  gd (0 ≤ (p0.length : Int) ∧ ((p0.length : Int)) * 40 ≤ 35184372088832 ∧ (p0.length : Int) ≤ 35184372088832) ((laws_toFuncS.l1 k ((List.replicate p0.length (⟨0, 0, []⟩))) p0 0).bind fun o1 => some o1)
def laws_toProgram (k : Nat) (p0 : GProgram) : Option (GProgram) :=
  (laws_toFuncS k p0.funcs).bind fun t1 => some ((⟨t1⟩ : GProgram))
def spec_OpName.a1 (k : Nat) (a1 : (List ByteArray)) (a2 : (List ByteArray)) (a3 : Int) : Option ((ByteArray) ⊕ ((List ByteArray) × Int)) :=
  cond ((decide (a3 ≥ 1))) (cond ((decide (a3 ≤ 5))) ((idx a1 ((IntKind.i64.wrap (a3 - 1)))).bind fun m1 => some (.inl (m1))) (some (.inr (a2, a3)))) (some (.inr (a2, a3)))
def spec_OpName (k : Nat) (p0 : Int) : Option (ByteArray) :=
  (spec_OpName.a1 k ([(⟨#[112, 117, 115, 104]⟩ : ByteArray), (⟨#[108, 111, 97, 100]⟩ : ByteArray), (⟨#[115, 116, 111, 114, 101]⟩ : ByteArray), (⟨#[100, 117, 112]⟩ : ByteArray), (⟨#[112, 111, 112]⟩ : ByteArray)]) ([(⟨#[97, 100, 100]⟩ : ByteArray), (⟨#[115, 117, 98]⟩ : ByteArray), (⟨#[109, 117, 108]⟩ : ByteArray), (⟨#[100, 105, 118]⟩ : ByteArray), (⟨#[114, 101, 109]⟩ : ByteArray), (⟨#[97, 110, 100]⟩ : ByteArray), (⟨#[111, 114]⟩ : ByteArray), (⟨#[120, 111, 114]⟩ : ByteArray), (⟨#[115, 104, 108]⟩ : ByteArray), (⟨#[115, 104, 114]⟩ : ByteArray), (⟨#[117, 115, 104, 114]⟩ : ByteArray), (⟨#[108, 101, 115, 115]⟩ : ByteArray), (⟨#[97, 116, 109, 111, 115, 116]⟩ : ByteArray), (⟨#[115, 97, 109, 101]⟩ : ByteArray), (⟨#[110, 101, 103]⟩ : ByteArray), (⟨#[110, 111, 116]⟩ : ByteArray), (⟨#[98, 121, 116, 101]⟩ : ByteArray), (⟨#[115, 104, 111, 114, 116]⟩ : ByteArray), (⟨#[105, 110, 116]⟩ : ByteArray), (⟨#[119, 111, 114, 100]⟩ : ByteArray), (⟨#[106, 117, 109, 112]⟩ : ByteArray), (⟨#[106, 122]⟩ : ByteArray), (⟨#[99, 97, 108, 108]⟩ : ByteArray), (⟨#[114, 101, 116]⟩ : ByteArray), (⟨#[110, 101, 119]⟩ : ByteArray), (⟨#[103, 101, 116]⟩ : ByteArray), (⟨#[115, 101, 116]⟩ : ByteArray), (⟨#[108, 101, 110]⟩ : ByteArray), (⟨#[111, 117, 116]⟩ : ByteArray)]) p0).bind fun o1 => Sum.elim (fun o1l => some o1l) (fun o1r => cond ((decide (o1r.2 ≥ 10))) (cond ((decide (o1r.2 ≤ 38))) ((idx o1r.1 ((IntKind.i64.wrap (o1r.2 - 10)))).bind fun m2 => some m2) (some ((⟨#[]⟩ : ByteArray)))) (some ((⟨#[]⟩ : ByteArray)))) o1
theorem c_spec_OpName {k : Nat} {p0 : Int} {r : ByteArray} (h : spec_OpName k p0 = some r) : Con Try.prog 126 [V.int p0] [] (.d (.p (.string r))) [] := by
  refine con_of_sw Try.func126 rfl Try.call126 (by simp [Try.ntmps126]) (by simp [V.inNs, V.inN]) (by simp [C.inN, V.inNss, V.inNs, V.inN, inNss_dd]) (by simp [V.inNs, V.inN]) (by simp [C.inN, V.inNss, V.inNs, V.inN, inNss_dd]) rfl ?_
  rw [Try.ntmps126, Try.results126]
  unfold spec_OpName at h
  replace h := Yes.mk h
  simp only [entryS, entryO, Nat.reduceAdd, List.length_nil, List.length_cons]
  repeat' (first
 | (with_reducible (first | refine sw_reg ?_ | refine sw_ret ?_ | refine sw_skip ?_ | refine sw_block ?_ | refine sw_exit ?_ | refine seqQ_normal ?_ | refine blockQ_normal ?_ | refine blockQ_ret ?_ | refine blockQ_this ?_ | refine blockQ_other (by decide) ?_ | refine regW_nil ?_ | refine sw_draw mixed ?_ | refine retQ_ret ?_ | refine retQ_normal ?_))
 | (with_reducible refine regD_nil ?_
    refine ⟨by kernel_rfl, ?_⟩)
 | (revert h; (first | ((with_reducible refine idx_elim ?_); intro m hm1 hm2 hm3 h; (try (simp only [Int.reduceToNat] at hm3)); (try (revert hm3; (with_reducible apply same_elim); (focus (with_reducible assumption)); rintro rfl)); (try (simp only [List.length_set, List.length_cons, List.length_nil, List.length_replicate, Nat.reduceAdd, Int.cast_ofNat_Int, Nat.zero_add, List.length_append] at hm2))) | (with_reducible refine sidx_elim ?_; intro m hm1 hm3 h) | (with_reducible refine gd_elim ?_; intro hg h; try (have hg2 := hg.2; have hg := hg.1; (try (simp only [Nat.reduceLeDiff] at hg2)); (try (revert hg2; (with_reducible refine toNat_elim hg ?_); intro hg2 hg4)); try (have hg3 := hg2.2; have hg2 := hg2.1; (try (simp only [Nat.reduceLeDiff] at hg3))))) | (with_reducible refine condt_elim ?_ ?_; (focus (with_reducible assumption)); intro h) | (with_reducible refine condf_elim ?_ ?_; (focus (with_reducible assumption)); intro h)))
 | ((first | with_reducible refine seqQ_ret (K := (fun st1 n1 => Gh st1 n1 (MeetA _ 10000000 _ _))) ?_ | with_reducible refine seqQ_exit (K := (fun st1 n1 => Gh st1 n1 (MeetA _ 10000000 _ _))) ?_)
    obtain rfl := h.get
    have h := hK1
    (try (simp only [Sum.elim_inl, Sum.elim_inr] at h)))
 | (with_reducible refine here_join (a := (.seq (.region 3 _ _) _)) (b := (.seq (.seq (.region 5 _ _) _) _)) ?_
    skip
    revert h
    with_reducible refine bind_elimY ?_
    intro o1 h hK1
    unfold spec_OpName.a1 at h
    refine sw_join (ι := (List ByteArray) × Int) 10000000 (fun x : (List ByteArray) × Int => [(.s 0, some (.v (V.int x.2))), (.s 4, some (.v (.sl 256 1 0 x.1.length))), (.r 256, some (.o 1 (dd (Rw cS x.1))))]) (fun x => Yes (some (.inr x)) o1) ?_ ?_
    rotate_left
    rintro ⟨b1, b2⟩ h
    obtain rfl := h.get
    have h := hK1
    (try (simp only [Sum.elim_inl, Sum.elim_inr] at h))
    refine sw_gh ?_
    refine gh_sw ?_
    skip)
 | (with_reducible refine here_meet (N0 := 10000000) ?_
    skip
    refine meet_to (_, _) (by decide) ?_ h ?_
    · exact (by simp [slNL, C.inN, V.inN, V.inNs, V.inNss, inNss_dd, inNs_map_d])
    · simp only [SubL, putSt, lk, lkb, reduceCtorEq, Nat.reduceEqDiff, List.length_set, List.length_replicate]; repeat' (first | apply And.intro | rfl | trivial | (simp only [*]; done)))
 | with_reducible refine sw_seq ?_
 | with_reducible refine seqQ_ret ?_
 | with_reducible refine seqQ_exit ?_
 | ((with_reducible refine wp_ite ?_ ?_)
    all_goals (intro hc; (try (simp only [Bool.not_eq_true, Bool.not_eq_false] at hc)); simp only [hc]))
 | (with_reducible apply regW_skip
    · simp only [dstOk, Nat.reduceLT]
    · rfl
    · simp only [putSt, lk, lkb, reduceCtorEq, Nat.reduceEqDiff]; done)
 | (with_reducible apply regW_yesN
    · simp only [dstOk, Nat.reduceLT]
    · rfl
    · simp only [putSt, lk, lkb, reduceCtorEq, Nat.reduceEqDiff]; done)
 | (with_reducible apply regW_no
    · simp only [dstOk, Nat.reduceLT]
    · rfl
    · simp only [putSt, lk, lkb, reduceCtorEq, Nat.reduceEqDiff, Bool.not_true, Bool.not_false]; done)
 | (with_reducible apply regW_guardN
    · simp only [dstOk, Nat.reduceLT]
    · rfl
    · simp only [putSt, lk, lkb, reduceCtorEq, Nat.reduceEqDiff]; rfl
    all_goals (intro hc; (try (simp only [Bool.not_true, Bool.not_false] at hc))))
 | (with_reducible apply sw_cond
    · simp only [putSt, lk, lkb, reduceCtorEq, Nat.reduceEqDiff]; rfl
    all_goals (intro hc; try (cases hc; done)))
 | ((first
     | ((with_reducible refine gh_ret ?_)
        revert h
        with_reducible refine some_elim ?_
        rintro rfl)
     | (with_reducible apply regD_opK
        · simp only [dstOk, Nat.reduceLT]
        · simp only [Nat.reduceAdd]; rfl
        intro k hk)
     | (with_reducible apply regW_opK
        · simp only [dstOk, Nat.reduceLT]
        · simp only [Nat.reduceAdd]; rfl
        intro k hk)
     | skip)
    simp only [RetW, bn, lkb, evb, opC, opP, fetchN, fetchP, fetchAll, fetchO, Prog.bind, Prog.wp, Prog.wp_bind, lk, nameP, nameAll, Value.oneCell', putSt, stepP, putP, reduceCtorEq, V.lin, V.linL, D.lin, isNil, binP, unP, BinOp.isShift, Prog.ofO, Nat.reduceAdd, Nat.reduceMul, Nat.reduceSub, Nat.reduceLT, Nat.reduceLeDiff, Nat.reduceEqDiff, ite_true, ite_false, fieldAddrP, fieldP, indexAddrP, loadP, storeP, boxP, allocP, cellsP, asVal, setSeg, outP, outT, cntT, TyK.field, TyK.agg, zeroRow, V.ren, V.renL, forall_eq_or_imp, forall_const, minmaxP, lenP, lenOf, lenStr, V.asInt, decide_true, decide_false, sliceP, boundP, makeSliceP, convertP, appendP, rowsOfP, ontoP, sizeFits, V.rowSize, TyK.src, resV, resV.go, resV.gol, retP, retOne, retAll, resTo, objsAre, Option.map_eq_map, Function.const_apply, Int.reduceNeg, Int.reduceToNat, ty2, ty5, ty9, ty28, ty29, ty63, ty65, ty107, ty177, GFunc.cells, GI2.cells, GProgram.cells, cI, cB, cS, cL, GI2_e, GFunc_e, GProgram_e, buildP, buildSliceP, putParts, structPlaces, chunks, List.replicate, List.flatten_nil, List.flatten_cons, Option.bind_some, bb, GI2_b, GFunc_b, GProgram_b, *]
    try (refine hk.use _ _ _ _ ?_; clear hk k))
 | fail)
  all_goals (try rfl)
  all_goals (try (simp; done))
  all_goals (try (simp_all; done))
def spec_InsRight.a1 (k : Nat) (a1 : (List GFunc)) (a2 : GI2) (a3 : Int) : Option ((Bool) ⊕ ((List GFunc) × GI2 × Int)) :=
  cond ((decide (a3 < 0))) (some (.inl (false))) (cond ((decide (a3 ≥ ((a1.length : Int))))) (some (.inl (false))) (some (.inr (a1, a2, a3))))
def spec_InsRight.a3 (k : Nat) (a1 : (List GFunc)) (a2 : GI2) (a3 : Int) (a4 : Int) : Option ((List GFunc) × GI2 × Int × Int × Bool) :=
  cond ((a4 == 2)) (some (a1, a2, a3, a4, true)) (some (a1, a2, a3, a4, (a4 == 3)))
def spec_InsRight.a4 (k : Nat) (a1 : (List GFunc)) (a2 : GI2) (a3 : Int) (a4 : Int) : Option ((List GFunc) × GI2 × Int × Int × Bool) :=
  cond ((a4 == 30)) (some (a1, a2, a3, a4, true)) (some (a1, a2, a3, a4, (a4 == 31)))
def spec_InsRight.a2 (k : Nat) (a1 : (List GFunc)) (a2 : GI2) (a3 : Int) : Option ((Bool) ⊕ (GI2)) :=
  cond ((a2.a == 1)) (some (.inl (true))) ((spec_InsRight.a3 k a1 a2 a3 a2.a).bind fun o3 => cond o3.2.2.2.2 (cond ((decide (o3.2.1.b ≥ 0))) ((idx o3.1 o3.2.2.1).bind fun m1 => some (.inl ((decide (o3.2.1.b < m1.locals))))) (some (.inl (false)))) ((spec_InsRight.a4 k o3.1 o3.2.1 o3.2.2.1 o3.2.2.2.1).bind fun o4 => cond o4.2.2.2.2 (cond ((decide (o4.2.1.b ≥ 0))) ((idx o4.1 o4.2.2.1).bind fun m2 => some (.inl ((decide (o4.2.1.b < ((m2.code.length : Int))))))) (some (.inl (false)))) (cond ((o4.2.2.2.1 == 32)) (cond ((decide (o4.2.1.b ≥ 0))) (some (.inl ((decide (o4.2.1.b < ((o4.1.length : Int))))))) (some (.inl (false)))) (some (.inr (o4.2.1))))))
def spec_InsRight (k : Nat) (p0 : GProgram) (p1 : Int) (p2 : GI2) : Option (Bool) :=
  (spec_InsRight.a1 k p0.funcs p2 p1).bind fun o1 => Sum.elim (fun o1l => some o1l) (fun o1r => (spec_InsRight.a2 k o1r.1 o1r.2.1 o1r.2.2).bind fun o2 => Sum.elim (fun o2l => some o2l) (fun o2r => (spec_OpName k o2r.a).bind fun t3 => cond ((!(t3.toList == ((⟨#[]⟩ : ByteArray)).toList))) (some ((o2r.b == 0))) (some false)) o2) o1
theorem c_spec_InsRight {k : Nat} {p0 : GProgram} {p1 : Int} {p2 : GI2} {r : Bool} (h : spec_InsRight k p0 p1 p2 = some r) : Con Try.prog 119 [.agg [.d (.row .bor 3 (Rw (GFunc.cells .bor) p0.funcs))], V.int p1, .agg [V.int p2.a, V.int p2.b]] [] (V.bool r) [] := by
  refine con_of_sw Try.func119 rfl Try.call119 (by simp [Try.ntmps119]) (by simp [V.inNs, V.inN]) (by simp [C.inN, V.inNss, V.inNs, V.inN, inNss_dd]) (by simp [V.inNs, V.inN]) (by simp [C.inN, V.inNss, V.inNs, V.inN, inNss_dd]) rfl ?_
  rw [Try.ntmps119, Try.results119]
  unfold spec_InsRight at h
  replace h := Yes.mk h
  simp only [entryS, entryO, Nat.reduceAdd, List.length_nil, List.length_cons]
  repeat' (first
 | (with_reducible (first | refine sw_reg ?_ | refine sw_ret ?_ | refine sw_skip ?_ | refine sw_block ?_ | refine sw_exit ?_ | refine seqQ_normal ?_ | refine blockQ_normal ?_ | refine blockQ_ret ?_ | refine blockQ_this ?_ | refine blockQ_other (by decide) ?_ | refine regW_nil ?_ | refine sw_draw mixed ?_ | refine retQ_ret ?_ | refine retQ_normal ?_))
 | (with_reducible refine regD_nil ?_
    refine ⟨by kernel_rfl, ?_⟩)
 | (revert h; (first | ((with_reducible refine idx_elim ?_); intro m hm1 hm2 hm3 h; (try (simp only [Int.reduceToNat] at hm3)); (try (revert hm3; (with_reducible apply same_elim); (focus (with_reducible assumption)); rintro rfl)); (try (simp only [List.length_set, List.length_cons, List.length_nil, List.length_replicate, Nat.reduceAdd, Int.cast_ofNat_Int, Nat.zero_add, List.length_append] at hm2))) | (with_reducible refine sidx_elim ?_; intro m hm1 hm3 h) | (with_reducible refine gd_elim ?_; intro hg h; try (have hg2 := hg.2; have hg := hg.1; (try (simp only [Nat.reduceLeDiff] at hg2)); (try (revert hg2; (with_reducible refine toNat_elim hg ?_); intro hg2 hg4)); try (have hg3 := hg2.2; have hg2 := hg2.1; (try (simp only [Nat.reduceLeDiff] at hg3))))) | (with_reducible refine condt_elim ?_ ?_; (focus (with_reducible assumption)); intro h) | (with_reducible refine condf_elim ?_ ?_; (focus (with_reducible assumption)); intro h)))
 | ((first | with_reducible refine seqQ_ret (K := (fun st1 n1 => Gh st1 n1 (MeetA _ 40000000 _ _))) ?_ | with_reducible refine seqQ_exit (K := (fun st1 n1 => Gh st1 n1 (MeetA _ 40000000 _ _))) ?_)
    obtain rfl := h.get
    have h := hK4
    (try (simp only [Sum.elim_inl, Sum.elim_inr] at h)))
 | ((first | with_reducible refine seqQ_ret (K := (fun st1 n1 => Gh st1 n1 (MeetA _ 30000000 _ _))) ?_ | with_reducible refine seqQ_exit (K := (fun st1 n1 => Gh st1 n1 (MeetA _ 30000000 _ _))) ?_)
    obtain rfl := h.get
    have h := hK3
    (try (simp only [Sum.elim_inl, Sum.elim_inr] at h)))
 | ((first | with_reducible refine seqQ_ret (K := (fun st1 n1 => Gh st1 n1 (MeetA _ 20000000 _ _))) ?_ | with_reducible refine seqQ_exit (K := (fun st1 n1 => Gh st1 n1 (MeetA _ 20000000 _ _))) ?_)
    obtain rfl := h.get
    have h := hK2
    (try (simp only [Sum.elim_inl, Sum.elim_inr] at h)))
 | ((first | with_reducible refine seqQ_ret (K := (fun st1 n1 => Gh st1 n1 (MeetA _ 10000000 _ _))) ?_ | with_reducible refine seqQ_exit (K := (fun st1 n1 => Gh st1 n1 (MeetA _ 10000000 _ _))) ?_)
    obtain rfl := h.get
    have h := hK1
    (try (simp only [Sum.elim_inl, Sum.elim_inr] at h)))
 | (with_reducible refine here_join (a := (.seq (.region 9 _ _) _)) (b := (.cond (.tmp 37) _ _)) ?_
    skip
    revert h
    with_reducible refine bind_elimY ?_
    intro o4 h hK4
    unfold spec_InsRight.a4 at h
    refine sw_join (ι := (List GFunc) × GI2 × Int × Int × Bool) 40000000 (fun x : (List GFunc) × GI2 × Int × Int × Bool => [(.s 1, some (.v (V.int x.2.2.1))), (.s 3, some (.v (.mp 0 1 0 0))), (.s 5, some (.v (.mp 64 2 0 0))), (.s 17, some (.v (V.int x.2.2.2.1))), (.s 37, some (.v (V.bool x.2.2.2.2))), (.r 0, some (.o 1 [[.d (.row .bor 3 (Rw (GFunc.cells .bor) x.1))]])), (.r 64, some (.o 2 [[V.int x.2.1.a, V.int x.2.1.b]]))]) (fun x => Yes (some (x)) o4) ?_ ?_
    rotate_left
    rintro ⟨b1, b2, b3, b4, b5⟩ h
    obtain rfl := h.get
    have h := hK4
    (try (simp only [Sum.elim_inl, Sum.elim_inr] at h))
    refine sw_gh ?_
    refine gh_sw ?_
    skip)
 | (with_reducible refine here_meet (N0 := 40000000) ?_
    skip
    refine meet_to (_, _, _, _, _) (by decide) ?_ h ?_
    · exact (by simp [slNL, C.inN, V.inN, V.inNs, V.inNss, inNss_dd, inNs_map_d])
    · simp only [SubL, putSt, lk, lkb, reduceCtorEq, Nat.reduceEqDiff, List.length_set, List.length_replicate]; repeat' (first | apply And.intro | rfl | trivial | (simp only [*]; done)))
 | (with_reducible refine here_join (a := (.seq (.region 6 _ _) _)) (b := (.cond (.tmp 20) _ _)) ?_
    skip
    revert h
    with_reducible refine bind_elimY ?_
    intro o3 h hK3
    unfold spec_InsRight.a3 at h
    refine sw_join (ι := (List GFunc) × GI2 × Int × Int × Bool) 30000000 (fun x : (List GFunc) × GI2 × Int × Int × Bool => [(.s 1, some (.v (V.int x.2.2.1))), (.s 3, some (.v (.mp 0 1 0 0))), (.s 5, some (.v (.mp 64 2 0 0))), (.s 17, some (.v (V.int x.2.2.2.1))), (.s 20, some (.v (V.bool x.2.2.2.2))), (.r 0, some (.o 1 [[.d (.row .bor 3 (Rw (GFunc.cells .bor) x.1))]])), (.r 64, some (.o 2 [[V.int x.2.1.a, V.int x.2.1.b]]))]) (fun x => Yes (some (x)) o3) ?_ ?_
    rotate_left
    rintro ⟨b1, b2, b3, b4, b5⟩ h
    obtain rfl := h.get
    have h := hK3
    (try (simp only [Sum.elim_inl, Sum.elim_inr] at h))
    refine sw_gh ?_
    refine gh_sw ?_
    skip)
 | (with_reducible refine here_meet (N0 := 30000000) ?_
    skip
    refine meet_to (_, _, _, _, _) (by decide) ?_ h ?_
    · exact (by simp [slNL, C.inN, V.inN, V.inNs, V.inNss, inNss_dd, inNs_map_d])
    · simp only [SubL, putSt, lk, lkb, reduceCtorEq, Nat.reduceEqDiff, List.length_set, List.length_replicate]; repeat' (first | apply And.intro | rfl | trivial | (simp only [*]; done)))
 | (with_reducible refine here_join (a := (.seq (.region 3 _ _) _)) (b := (.seq (.region 14 _ _) _)) ?_
    skip
    revert h
    with_reducible refine bind_elimY ?_
    intro o2 h hK2
    unfold spec_InsRight.a2 at h
    refine sw_join (ι := GI2) 20000000 (fun x : GI2 => [(.s 5, some (.v (.mp 64 2 0 0))), (.r 64, some (.o 2 [[V.int x.a, V.int x.b]]))]) (fun x => Yes (some (.inr x)) o2) ?_ ?_
    rotate_left
    rintro b1 h
    obtain rfl := h.get
    have h := hK2
    (try (simp only [Sum.elim_inl, Sum.elim_inr] at h))
    refine sw_gh ?_
    refine gh_sw ?_
    skip)
 | (with_reducible refine here_meet (N0 := 20000000) ?_
    skip
    refine meet_to (_) (by decide) ?_ h ?_
    · exact (by simp [slNL, C.inN, V.inN, V.inNs, V.inNss, inNss_dd, inNs_map_d])
    · simp only [SubL, putSt, lk, lkb, reduceCtorEq, Nat.reduceEqDiff, List.length_set, List.length_replicate]; repeat' (first | apply And.intro | rfl | trivial | (simp only [*]; done)))
 | (with_reducible refine here_join (a := (.seq (.region 1 _ _) _)) (b := (.seq (.seq (.region 3 _ _) _) _)) ?_
    skip
    revert h
    with_reducible refine bind_elimY ?_
    intro o1 h hK1
    unfold spec_InsRight.a1 at h
    refine sw_join (ι := (List GFunc) × GI2 × Int) 10000000 (fun x : (List GFunc) × GI2 × Int => [(.s 1, some (.v (V.int x.2.2))), (.s 3, some (.v (.mp 0 1 0 0))), (.s 5, some (.v (.mp 64 2 0 0))), (.r 0, some (.o 1 [[.d (.row .bor 3 (Rw (GFunc.cells .bor) x.1))]])), (.r 64, some (.o 2 [[V.int x.2.1.a, V.int x.2.1.b]]))]) (fun x => Yes (some (.inr x)) o1) ?_ ?_
    rotate_left
    rintro ⟨b1, b2, b3⟩ h
    obtain rfl := h.get
    have h := hK1
    (try (simp only [Sum.elim_inl, Sum.elim_inr] at h))
    refine sw_gh ?_
    refine gh_sw ?_
    skip)
 | (with_reducible refine here_meet (N0 := 10000000) ?_
    skip
    refine meet_to (_, _, _) (by decide) ?_ h ?_
    · exact (by simp [slNL, C.inN, V.inN, V.inNs, V.inNss, inNss_dd, inNs_map_d])
    · simp only [SubL, putSt, lk, lkb, reduceCtorEq, Nat.reduceEqDiff, List.length_set, List.length_replicate]; repeat' (first | apply And.intro | rfl | trivial | (simp only [*]; done)))
 | with_reducible refine sw_seq ?_
 | with_reducible refine seqQ_ret ?_
 | with_reducible refine seqQ_exit ?_
 | ((with_reducible refine wp_ite ?_ ?_)
    all_goals (intro hc; (try (simp only [Bool.not_eq_true, Bool.not_eq_false] at hc)); simp only [hc]))
 | (with_reducible apply regW_skip
    · simp only [dstOk, Nat.reduceLT]
    · rfl
    · simp only [putSt, lk, lkb, reduceCtorEq, Nat.reduceEqDiff]; done)
 | (with_reducible apply regW_yesN
    · simp only [dstOk, Nat.reduceLT]
    · rfl
    · simp only [putSt, lk, lkb, reduceCtorEq, Nat.reduceEqDiff]; done)
 | (with_reducible apply regW_no
    · simp only [dstOk, Nat.reduceLT]
    · rfl
    · simp only [putSt, lk, lkb, reduceCtorEq, Nat.reduceEqDiff, Bool.not_true, Bool.not_false]; done)
 | (with_reducible apply regW_guardN
    · simp only [dstOk, Nat.reduceLT]
    · rfl
    · simp only [putSt, lk, lkb, reduceCtorEq, Nat.reduceEqDiff]; rfl
    all_goals (intro hc; (try (simp only [Bool.not_true, Bool.not_false] at hc))))
 | (with_reducible apply sw_cond
    · simp only [putSt, lk, lkb, reduceCtorEq, Nat.reduceEqDiff]; rfl
    all_goals (intro hc; try (cases hc; done)))
 | ((first
     | ((with_reducible refine gh_ret ?_)
        revert h
        with_reducible refine some_elim ?_
        rintro rfl)
     | (with_reducible refine here_call ?_
        revert h
        with_reducible refine bind_elim ?_
        intro t ht h
        (first
          | (refine call_dataE (c_spec_OpName ht) ?_ rfl ?_
             · first | rfl | (simp; done))))
     | (with_reducible apply regD_opK
        · simp only [dstOk, Nat.reduceLT]
        · simp only [Nat.reduceAdd]; rfl
        intro k hk)
     | (with_reducible apply regW_opK
        · simp only [dstOk, Nat.reduceLT]
        · simp only [Nat.reduceAdd]; rfl
        intro k hk)
     | skip)
    simp only [RetW, bn, lkb, evb, opC, opP, fetchN, fetchP, fetchAll, fetchO, Prog.bind, Prog.wp, Prog.wp_bind, lk, nameP, nameAll, Value.oneCell', putSt, stepP, putP, reduceCtorEq, V.lin, V.linL, D.lin, isNil, binP, unP, BinOp.isShift, Prog.ofO, Nat.reduceAdd, Nat.reduceMul, Nat.reduceSub, Nat.reduceLT, Nat.reduceLeDiff, Nat.reduceEqDiff, ite_true, ite_false, fieldAddrP, fieldP, indexAddrP, loadP, storeP, boxP, allocP, cellsP, asVal, setSeg, outP, outT, cntT, TyK.field, TyK.agg, zeroRow, V.ren, V.renL, forall_eq_or_imp, forall_const, minmaxP, lenP, lenOf, lenStr, V.asInt, decide_true, decide_false, sliceP, boundP, makeSliceP, convertP, appendP, rowsOfP, ontoP, sizeFits, V.rowSize, TyK.src, resV, resV.go, resV.gol, retP, retOne, retAll, resTo, objsAre, Option.map_eq_map, Function.const_apply, Int.reduceNeg, Int.reduceToNat, ty2, ty4, ty9, ty28, ty30, ty63, ty65, ty107, GFunc.cells, GI2.cells, GProgram.cells, cI, cB, cS, cL, GI2_e, GFunc_e, GProgram_e, *]
    try (refine hk.use _ _ _ _ ?_; clear hk k))
 | fail)
  all_goals (try rfl)
  all_goals (try (simp; done))
  all_goals (try (simp_all; done))
def spec_l04Least.l1 : Nat → (List Bool) → Int → Option ((Int) ⊕ (Unit))
  | 0, _, _ => none
  | k + 1, a1, a2 => cond ((decide (a2 < ((a1.length : Int))))) ((idx a1 a2).bind fun m1 => cond m1 (some (.inl (a2))) (spec_l04Least.l1 k a1 ((IntKind.i64.wrap (a2 + 1))))) (some (.inr ()))
def spec_l04Least (k : Nat) (p0 : (List Bool)) : Option (Int) :=
  (spec_l04Least.l1 k p0 0).bind fun o1 => Sum.elim (fun o1l => some o1l) (fun o1r => some ((-1))) o1
theorem c_spec_l04Least {k : Nat} {p0 : (List Bool)} {r : Int} (h : spec_l04Least k p0 = some r) : Con Try.prog 80 [.d (.row .bor 1 (Rw cB p0))] [] (V.int r) [] := by
  refine con_of_sw Try.func80 rfl Try.call80 (by simp [Try.ntmps80]) (by simp [V.inNs, V.inN]) (by simp [C.inN, V.inNss, V.inNs, V.inN, inNss_dd]) (by simp [V.inNs, V.inN]) (by simp [C.inN, V.inNss, V.inNs, V.inN, inNss_dd]) rfl ?_
  rw [Try.ntmps80, Try.results80]
  unfold spec_l04Least at h
  replace h := Yes.mk h
  simp only [entryS, entryO, Nat.reduceAdd, List.length_nil, List.length_cons]
  repeat' (first
 | (with_reducible (first | refine sw_reg ?_ | refine sw_ret ?_ | refine sw_skip ?_ | refine sw_block ?_ | refine sw_exit ?_ | refine seqQ_normal ?_ | refine blockQ_normal ?_ | refine blockQ_ret ?_ | refine blockQ_this ?_ | refine blockQ_other (by decide) ?_ | refine regW_nil ?_ | refine sw_draw mixed ?_ | refine retQ_ret ?_ | refine retQ_normal ?_))
 | (with_reducible refine regD_nil ?_
    refine ⟨by kernel_rfl, ?_⟩)
 | (revert h; (first | ((with_reducible refine idx_elim ?_); intro m hm1 hm2 hm3 h; (try (simp only [Int.reduceToNat] at hm3)); (try (revert hm3; (with_reducible apply same_elim); (focus (with_reducible assumption)); rintro rfl)); (try (simp only [List.length_set, List.length_cons, List.length_nil, List.length_replicate, Nat.reduceAdd, Int.cast_ofNat_Int, Nat.zero_add, List.length_append] at hm2))) | (with_reducible refine sidx_elim ?_; intro m hm1 hm3 h) | (with_reducible refine gd_elim ?_; intro hg h; try (have hg2 := hg.2; have hg := hg.1; (try (simp only [Nat.reduceLeDiff] at hg2)); (try (revert hg2; (with_reducible refine toNat_elim hg ?_); intro hg2 hg4)); try (have hg3 := hg2.2; have hg2 := hg2.1; (try (simp only [Nat.reduceLeDiff] at hg3))))) | (with_reducible refine condt_elim ?_ ?_; (focus (with_reducible assumption)); intro h) | (with_reducible refine condf_elim ?_ ?_; (focus (with_reducible assumption)); intro h)))
 | ((first | with_reducible refine seqQ_ret (K := (fun st1 n1 => Gh st1 n1 (NextS _ 10000000 _ _ _ _))) ?_ | with_reducible refine seqQ_exit (K := (fun st1 n1 => Gh st1 n1 (NextS _ 10000000 _ _ _ _))) ?_)
    obtain rfl := h.get
    have h := hK1
    (try (simp only [Sum.elim_inl, Sum.elim_inr] at h)))
 | (with_reducible refine here_loop (c := (.seq (.seq (.region 2 _ _) _) _)) ?_
    skip
    revert h
    with_reducible refine bind_elimY ?_
    intro o1 h hK1
    refine sw_loop (ι := Nat × (List Bool) × Int) 10000000 (by decide) (fun x : Nat × (List Bool) × Int => [(.s 0, some (.v (.d (.row .bor 1 (Rw cB x.2.1))))), (.s 3, some (.v (V.int x.2.2)))]) (fun x => x.1) (fun x => Yes (spec_l04Least.l1 x.1 x.2.1 x.2.2) o1) (_, _, _) ?_ h ?_ ?_
    · exact (by simp [slNL, C.inN, V.inN, V.inNs, V.inNss, inNss_dd, inNs_map_d])
    · simp only [SubL, putSt, lk, lkb, reduceCtorEq, Nat.reduceEqDiff, List.length_set, List.length_replicate]; repeat' (first | apply And.intro | rfl | trivial | (simp only [*]; done))
    rintro ⟨_ | k, a1, a2⟩ h
    · simp only [spec_l04Least.l1] at h; exact h.none
    simp only [spec_l04Least.l1] at h
)
 | (with_reducible refine here_next (N0 := 10000000) ?_
    skip
    refine nexts_to (_, _, _) (by decide) ?_ (Nat.lt_succ_self _) h ?_
    · exact (by simp [slNL, C.inN, V.inN, V.inNs, V.inNss, inNss_dd, inNs_map_d])
    · simp only [SubL, putSt, lk, lkb, reduceCtorEq, Nat.reduceEqDiff, List.length_set, List.length_replicate]; repeat' (first | apply And.intro | rfl | trivial | (simp only [*]; done)))
 | with_reducible refine sw_seq ?_
 | with_reducible refine seqQ_ret ?_
 | with_reducible refine seqQ_exit ?_
 | ((with_reducible refine wp_ite ?_ ?_)
    all_goals (intro hc; (try (simp only [Bool.not_eq_true, Bool.not_eq_false] at hc)); simp only [hc]))
 | (with_reducible apply regW_skip
    · simp only [dstOk, Nat.reduceLT]
    · rfl
    · simp only [putSt, lk, lkb, reduceCtorEq, Nat.reduceEqDiff]; done)
 | (with_reducible apply regW_yesN
    · simp only [dstOk, Nat.reduceLT]
    · rfl
    · simp only [putSt, lk, lkb, reduceCtorEq, Nat.reduceEqDiff]; done)
 | (with_reducible apply regW_no
    · simp only [dstOk, Nat.reduceLT]
    · rfl
    · simp only [putSt, lk, lkb, reduceCtorEq, Nat.reduceEqDiff, Bool.not_true, Bool.not_false]; done)
 | (with_reducible apply regW_guardN
    · simp only [dstOk, Nat.reduceLT]
    · rfl
    · simp only [putSt, lk, lkb, reduceCtorEq, Nat.reduceEqDiff]; rfl
    all_goals (intro hc; (try (simp only [Bool.not_true, Bool.not_false] at hc))))
 | (with_reducible apply sw_cond
    · simp only [putSt, lk, lkb, reduceCtorEq, Nat.reduceEqDiff]; rfl
    all_goals (intro hc; try (cases hc; done)))
 | ((first
     | ((with_reducible refine gh_ret ?_)
        revert h
        with_reducible refine some_elim ?_
        rintro rfl)
     | (with_reducible apply regD_opK
        · simp only [dstOk, Nat.reduceLT]
        · simp only [Nat.reduceAdd]; rfl
        intro k hk)
     | (with_reducible apply regW_opK
        · simp only [dstOk, Nat.reduceLT]
        · simp only [Nat.reduceAdd]; rfl
        intro k hk)
     | skip)
    simp only [RetW, bn, lkb, evb, opC, opP, fetchN, fetchP, fetchAll, fetchO, Prog.bind, Prog.wp, Prog.wp_bind, lk, nameP, nameAll, Value.oneCell', putSt, stepP, putP, reduceCtorEq, V.lin, V.linL, D.lin, isNil, binP, unP, BinOp.isShift, Prog.ofO, Nat.reduceAdd, Nat.reduceMul, Nat.reduceSub, Nat.reduceLT, Nat.reduceLeDiff, Nat.reduceEqDiff, ite_true, ite_false, fieldAddrP, fieldP, indexAddrP, loadP, storeP, boxP, allocP, cellsP, asVal, setSeg, outP, outT, cntT, TyK.field, TyK.agg, zeroRow, V.ren, V.renL, forall_eq_or_imp, forall_const, minmaxP, lenP, lenOf, lenStr, V.asInt, decide_true, decide_false, sliceP, boundP, makeSliceP, convertP, appendP, rowsOfP, ontoP, sizeFits, V.rowSize, TyK.src, resV, resV.go, resV.gol, retP, retOne, retAll, resTo, objsAre, Option.map_eq_map, Function.const_apply, Int.reduceNeg, Int.reduceToNat, ty3, ty4, ty117, cI, cB, cS, cL, *]
    try (refine hk.use _ _ _ _ ?_; clear hk k))
 | fail)
  all_goals (try rfl)
  all_goals (try (simp; done))
  all_goals (try (simp_all; done))
def spec_l03Binary (p0 : Int) : Option (Bool) :=
  cond ((decide (p0 ≥ 10))) (some ((decide (p0 ≤ 23)))) (some false)
theorem c_spec_l03Binary {p0 : Int} {r : Bool} (h : spec_l03Binary p0 = some r) : Con Try.prog 100 [V.int p0] [] (V.bool r) [] := by
  refine con_of_sw Try.func100 rfl Try.call100 (by simp [Try.ntmps100]) (by simp [V.inNs, V.inN]) (by simp [C.inN, V.inNss, V.inNs, V.inN, inNss_dd]) (by simp [V.inNs, V.inN]) (by simp [C.inN, V.inNss, V.inNs, V.inN, inNss_dd]) rfl ?_
  rw [Try.ntmps100, Try.results100]
  unfold spec_l03Binary at h
  replace h := Yes.mk h
  simp only [entryS, entryO, Nat.reduceAdd, List.length_nil, List.length_cons]
  repeat' (first
 | (with_reducible (first | refine sw_reg ?_ | refine sw_ret ?_ | refine sw_skip ?_ | refine sw_block ?_ | refine sw_exit ?_ | refine seqQ_normal ?_ | refine blockQ_normal ?_ | refine blockQ_ret ?_ | refine blockQ_this ?_ | refine blockQ_other (by decide) ?_ | refine regW_nil ?_ | refine sw_draw mixed ?_ | refine retQ_ret ?_ | refine retQ_normal ?_))
 | (with_reducible refine regD_nil ?_
    refine ⟨by kernel_rfl, ?_⟩)
 | (revert h; (first | ((with_reducible refine idx_elim ?_); intro m hm1 hm2 hm3 h; (try (simp only [Int.reduceToNat] at hm3)); (try (revert hm3; (with_reducible apply same_elim); (focus (with_reducible assumption)); rintro rfl)); (try (simp only [List.length_set, List.length_cons, List.length_nil, List.length_replicate, Nat.reduceAdd, Int.cast_ofNat_Int, Nat.zero_add, List.length_append] at hm2))) | (with_reducible refine sidx_elim ?_; intro m hm1 hm3 h) | (with_reducible refine gd_elim ?_; intro hg h; try (have hg2 := hg.2; have hg := hg.1; (try (simp only [Nat.reduceLeDiff] at hg2)); (try (revert hg2; (with_reducible refine toNat_elim hg ?_); intro hg2 hg4)); try (have hg3 := hg2.2; have hg2 := hg2.1; (try (simp only [Nat.reduceLeDiff] at hg3))))) | (with_reducible refine condt_elim ?_ ?_; (focus (with_reducible assumption)); intro h) | (with_reducible refine condf_elim ?_ ?_; (focus (with_reducible assumption)); intro h)))
 | with_reducible refine sw_seq ?_
 | with_reducible refine seqQ_ret ?_
 | with_reducible refine seqQ_exit ?_
 | ((with_reducible refine wp_ite ?_ ?_)
    all_goals (intro hc; (try (simp only [Bool.not_eq_true, Bool.not_eq_false] at hc)); simp only [hc]))
 | (with_reducible apply regW_skip
    · simp only [dstOk, Nat.reduceLT]
    · rfl
    · simp only [putSt, lk, lkb, reduceCtorEq, Nat.reduceEqDiff]; done)
 | (with_reducible apply regW_yesN
    · simp only [dstOk, Nat.reduceLT]
    · rfl
    · simp only [putSt, lk, lkb, reduceCtorEq, Nat.reduceEqDiff]; done)
 | (with_reducible apply regW_no
    · simp only [dstOk, Nat.reduceLT]
    · rfl
    · simp only [putSt, lk, lkb, reduceCtorEq, Nat.reduceEqDiff, Bool.not_true, Bool.not_false]; done)
 | (with_reducible apply regW_guardN
    · simp only [dstOk, Nat.reduceLT]
    · rfl
    · simp only [putSt, lk, lkb, reduceCtorEq, Nat.reduceEqDiff]; rfl
    all_goals (intro hc; (try (simp only [Bool.not_true, Bool.not_false] at hc))))
 | (with_reducible apply sw_cond
    · simp only [putSt, lk, lkb, reduceCtorEq, Nat.reduceEqDiff]; rfl
    all_goals (intro hc; try (cases hc; done)))
 | ((first
     | ((with_reducible refine gh_ret ?_)
        revert h
        with_reducible refine some_elim ?_
        rintro rfl)
     | (with_reducible apply regD_opK
        · simp only [dstOk, Nat.reduceLT]
        · simp only [Nat.reduceAdd]; rfl
        intro k hk)
     | (with_reducible apply regW_opK
        · simp only [dstOk, Nat.reduceLT]
        · simp only [Nat.reduceAdd]; rfl
        intro k hk)
     | skip)
    simp only [RetW, bn, lkb, evb, opC, opP, fetchN, fetchP, fetchAll, fetchO, Prog.bind, Prog.wp, Prog.wp_bind, lk, nameP, nameAll, Value.oneCell', putSt, stepP, putP, reduceCtorEq, V.lin, V.linL, D.lin, isNil, binP, unP, BinOp.isShift, Prog.ofO, Nat.reduceAdd, Nat.reduceMul, Nat.reduceSub, Nat.reduceLT, Nat.reduceLeDiff, Nat.reduceEqDiff, ite_true, ite_false, fieldAddrP, fieldP, indexAddrP, loadP, storeP, boxP, allocP, cellsP, asVal, setSeg, outP, outT, cntT, TyK.field, TyK.agg, zeroRow, V.ren, V.renL, forall_eq_or_imp, forall_const, minmaxP, lenP, lenOf, lenStr, V.asInt, decide_true, decide_false, sliceP, boundP, makeSliceP, convertP, appendP, rowsOfP, ontoP, sizeFits, V.rowSize, TyK.src, resV, resV.go, resV.gol, retP, retOne, retAll, resTo, objsAre, Option.map_eq_map, Function.const_apply, Int.reduceNeg, Int.reduceToNat, ty2, ty4, cI, cB, cS, cL, *]
    try (refine hk.use _ _ _ _ ?_; clear hk k))
 | fail)
  all_goals (try rfl)
  all_goals (try (simp; done))
  all_goals (try (simp_all; done))
def spec_l03Unary (p0 : Int) : Option (Bool) :=
  cond ((decide (p0 ≥ 24))) (some ((decide (p0 ≤ 29)))) (some false)
theorem c_spec_l03Unary {p0 : Int} {r : Bool} (h : spec_l03Unary p0 = some r) : Con Try.prog 101 [V.int p0] [] (V.bool r) [] := by
  refine con_of_sw Try.func101 rfl Try.call101 (by simp [Try.ntmps101]) (by simp [V.inNs, V.inN]) (by simp [C.inN, V.inNss, V.inNs, V.inN, inNss_dd]) (by simp [V.inNs, V.inN]) (by simp [C.inN, V.inNss, V.inNs, V.inN, inNss_dd]) rfl ?_
  rw [Try.ntmps101, Try.results101]
  unfold spec_l03Unary at h
  replace h := Yes.mk h
  simp only [entryS, entryO, Nat.reduceAdd, List.length_nil, List.length_cons]
  repeat' (first
 | (with_reducible (first | refine sw_reg ?_ | refine sw_ret ?_ | refine sw_skip ?_ | refine sw_block ?_ | refine sw_exit ?_ | refine seqQ_normal ?_ | refine blockQ_normal ?_ | refine blockQ_ret ?_ | refine blockQ_this ?_ | refine blockQ_other (by decide) ?_ | refine regW_nil ?_ | refine sw_draw mixed ?_ | refine retQ_ret ?_ | refine retQ_normal ?_))
 | (with_reducible refine regD_nil ?_
    refine ⟨by kernel_rfl, ?_⟩)
 | (revert h; (first | ((with_reducible refine idx_elim ?_); intro m hm1 hm2 hm3 h; (try (simp only [Int.reduceToNat] at hm3)); (try (revert hm3; (with_reducible apply same_elim); (focus (with_reducible assumption)); rintro rfl)); (try (simp only [List.length_set, List.length_cons, List.length_nil, List.length_replicate, Nat.reduceAdd, Int.cast_ofNat_Int, Nat.zero_add, List.length_append] at hm2))) | (with_reducible refine sidx_elim ?_; intro m hm1 hm3 h) | (with_reducible refine gd_elim ?_; intro hg h; try (have hg2 := hg.2; have hg := hg.1; (try (simp only [Nat.reduceLeDiff] at hg2)); (try (revert hg2; (with_reducible refine toNat_elim hg ?_); intro hg2 hg4)); try (have hg3 := hg2.2; have hg2 := hg2.1; (try (simp only [Nat.reduceLeDiff] at hg3))))) | (with_reducible refine condt_elim ?_ ?_; (focus (with_reducible assumption)); intro h) | (with_reducible refine condf_elim ?_ ?_; (focus (with_reducible assumption)); intro h)))
 | with_reducible refine sw_seq ?_
 | with_reducible refine seqQ_ret ?_
 | with_reducible refine seqQ_exit ?_
 | ((with_reducible refine wp_ite ?_ ?_)
    all_goals (intro hc; (try (simp only [Bool.not_eq_true, Bool.not_eq_false] at hc)); simp only [hc]))
 | (with_reducible apply regW_skip
    · simp only [dstOk, Nat.reduceLT]
    · rfl
    · simp only [putSt, lk, lkb, reduceCtorEq, Nat.reduceEqDiff]; done)
 | (with_reducible apply regW_yesN
    · simp only [dstOk, Nat.reduceLT]
    · rfl
    · simp only [putSt, lk, lkb, reduceCtorEq, Nat.reduceEqDiff]; done)
 | (with_reducible apply regW_no
    · simp only [dstOk, Nat.reduceLT]
    · rfl
    · simp only [putSt, lk, lkb, reduceCtorEq, Nat.reduceEqDiff, Bool.not_true, Bool.not_false]; done)
 | (with_reducible apply regW_guardN
    · simp only [dstOk, Nat.reduceLT]
    · rfl
    · simp only [putSt, lk, lkb, reduceCtorEq, Nat.reduceEqDiff]; rfl
    all_goals (intro hc; (try (simp only [Bool.not_true, Bool.not_false] at hc))))
 | (with_reducible apply sw_cond
    · simp only [putSt, lk, lkb, reduceCtorEq, Nat.reduceEqDiff]; rfl
    all_goals (intro hc; try (cases hc; done)))
 | ((first
     | ((with_reducible refine gh_ret ?_)
        revert h
        with_reducible refine some_elim ?_
        rintro rfl)
     | (with_reducible apply regD_opK
        · simp only [dstOk, Nat.reduceLT]
        · simp only [Nat.reduceAdd]; rfl
        intro k hk)
     | (with_reducible apply regW_opK
        · simp only [dstOk, Nat.reduceLT]
        · simp only [Nat.reduceAdd]; rfl
        intro k hk)
     | skip)
    simp only [RetW, bn, lkb, evb, opC, opP, fetchN, fetchP, fetchAll, fetchO, Prog.bind, Prog.wp, Prog.wp_bind, lk, nameP, nameAll, Value.oneCell', putSt, stepP, putP, reduceCtorEq, V.lin, V.linL, D.lin, isNil, binP, unP, BinOp.isShift, Prog.ofO, Nat.reduceAdd, Nat.reduceMul, Nat.reduceSub, Nat.reduceLT, Nat.reduceLeDiff, Nat.reduceEqDiff, ite_true, ite_false, fieldAddrP, fieldP, indexAddrP, loadP, storeP, boxP, allocP, cellsP, asVal, setSeg, outP, outT, cntT, TyK.field, TyK.agg, zeroRow, V.ren, V.renL, forall_eq_or_imp, forall_const, minmaxP, lenP, lenOf, lenStr, V.asInt, decide_true, decide_false, sliceP, boundP, makeSliceP, convertP, appendP, rowsOfP, ontoP, sizeFits, V.rowSize, TyK.src, resV, resV.go, resV.gol, retP, retOne, retAll, resTo, objsAre, Option.map_eq_map, Function.const_apply, Int.reduceNeg, Int.reduceToNat, ty2, ty4, cI, cB, cS, cL, *]
    try (refine hk.use _ _ _ _ ?_; clear hk k))
 | fail)
  all_goals (try rfl)
  all_goals (try (simp; done))
  all_goals (try (simp_all; done))
def spec_Takes.a2 (k : Nat) (a1 : (List GFunc)) (a2 : GI2) : Option ((List GFunc) × GI2 × Bool) :=
  (spec_l03Binary a2.a).bind fun t1 => cond t1 (some (a1, a2, true)) (some (a1, a2, (a2.a == 35)))
def spec_Takes.a1 (k : Nat) (a1 : (List GFunc)) (a2 : GI2) : Option ((Int) ⊕ (GI2)) :=
  (spec_Takes.a2 k a1 a2).bind fun o2 => cond o2.2.2 (some (.inl (2))) (cond ((o2.2.1.a == 36)) (some (.inl (3))) (cond ((o2.2.1.a == 32)) (cond ((decide (o2.2.1.b < 0))) (some (.inl (0))) (cond ((decide (o2.2.1.b ≥ ((o2.1.length : Int))))) (some (.inl (0))) ((idx o2.1 o2.2.1.b).bind fun m2 => some (.inl (m2.args))))) ((spec_l03Unary o2.2.1.a).bind fun t3 => cond t3 (some (.inl (1))) (some (.inr (o2.2.1))))))
def spec_Takes (k : Nat) (p0 : GProgram) (p1 : GI2) : Option (Int) :=
  (spec_Takes.a1 k p0.funcs p1).bind fun o1 => Sum.elim (fun o1l => some o1l) (fun o1r => cond ((o1r.a == 3)) (some 1) (cond ((o1r.a == 4)) (some 1) (cond ((o1r.a == 5)) (some 1) (cond ((o1r.a == 31)) (some 1) (cond ((o1r.a == 33)) (some 1) (cond ((o1r.a == 34)) (some 1) (cond ((o1r.a == 37)) (some 1) (cond ((o1r.a == 38)) (some 1) (some 0))))))))) o1
theorem c_spec_Takes {k : Nat} {p0 : GProgram} {p1 : GI2} {r : Int} (h : spec_Takes k p0 p1 = some r) : Con Try.prog 81 [.agg [.d (.row .bor 3 (Rw (GFunc.cells .bor) p0.funcs))], .agg [V.int p1.a, V.int p1.b]] [] (V.int r) [] := by
  refine con_of_sw Try.func81 rfl Try.call81 (by simp [Try.ntmps81]) (by simp [V.inNs, V.inN]) (by simp [C.inN, V.inNss, V.inNs, V.inN, inNss_dd]) (by simp [V.inNs, V.inN]) (by simp [C.inN, V.inNss, V.inNs, V.inN, inNss_dd]) rfl ?_
  rw [Try.ntmps81, Try.results81]
  unfold spec_Takes at h
  replace h := Yes.mk h
  simp only [entryS, entryO, Nat.reduceAdd, List.length_nil, List.length_cons]
  repeat' (first
 | (with_reducible (first | refine sw_reg ?_ | refine sw_ret ?_ | refine sw_skip ?_ | refine sw_block ?_ | refine sw_exit ?_ | refine seqQ_normal ?_ | refine blockQ_normal ?_ | refine blockQ_ret ?_ | refine blockQ_this ?_ | refine blockQ_other (by decide) ?_ | refine regW_nil ?_ | refine sw_draw mixed ?_ | refine retQ_ret ?_ | refine retQ_normal ?_))
 | (with_reducible refine regD_nil ?_
    refine ⟨by kernel_rfl, ?_⟩)
 | (revert h; (first | ((with_reducible refine idx_elim ?_); intro m hm1 hm2 hm3 h; (try (simp only [Int.reduceToNat] at hm3)); (try (revert hm3; (with_reducible apply same_elim); (focus (with_reducible assumption)); rintro rfl)); (try (simp only [List.length_set, List.length_cons, List.length_nil, List.length_replicate, Nat.reduceAdd, Int.cast_ofNat_Int, Nat.zero_add, List.length_append] at hm2))) | (with_reducible refine sidx_elim ?_; intro m hm1 hm3 h) | (with_reducible refine gd_elim ?_; intro hg h; try (have hg2 := hg.2; have hg := hg.1; (try (simp only [Nat.reduceLeDiff] at hg2)); (try (revert hg2; (with_reducible refine toNat_elim hg ?_); intro hg2 hg4)); try (have hg3 := hg2.2; have hg2 := hg2.1; (try (simp only [Nat.reduceLeDiff] at hg3))))) | (with_reducible refine condt_elim ?_ ?_; (focus (with_reducible assumption)); intro h) | (with_reducible refine condf_elim ?_ ?_; (focus (with_reducible assumption)); intro h)))
 | ((first | with_reducible refine seqQ_ret (K := (fun st1 n1 => Gh st1 n1 (MeetA _ 20000000 _ _))) ?_ | with_reducible refine seqQ_exit (K := (fun st1 n1 => Gh st1 n1 (MeetA _ 20000000 _ _))) ?_)
    obtain rfl := h.get
    have h := hK2
    (try (simp only [Sum.elim_inl, Sum.elim_inr] at h)))
 | ((first | with_reducible refine seqQ_ret (K := (fun st1 n1 => Gh st1 n1 (MeetA _ 10000000 _ _))) ?_ | with_reducible refine seqQ_exit (K := (fun st1 n1 => Gh st1 n1 (MeetA _ 10000000 _ _))) ?_)
    obtain rfl := h.get
    have h := hK1
    (try (simp only [Sum.elim_inl, Sum.elim_inr] at h)))
 | (with_reducible refine here_join (a := (.region 1 _ _)) (b := (.cond (.tmp 5) _ _)) ?_
    skip
    revert h
    with_reducible refine bind_elimY ?_
    intro o2 h hK2
    unfold spec_Takes.a2 at h
    refine sw_join (ι := (List GFunc) × GI2 × Bool) 20000000 (fun x : (List GFunc) × GI2 × Bool => [(.s 2, some (.v (.mp 0 1 0 0))), (.s 3, some (.v (.mp 64 2 0 0))), (.s 5, some (.v (V.bool x.2.2))), (.r 0, some (.o 1 [[.d (.row .bor 3 (Rw (GFunc.cells .bor) x.1))]])), (.r 64, some (.o 2 [[V.int x.2.1.a, V.int x.2.1.b]]))]) (fun x => Yes (some (x)) o2) ?_ ?_
    rotate_left
    rintro ⟨b1, b2, b3⟩ h
    obtain rfl := h.get
    have h := hK2
    (try (simp only [Sum.elim_inl, Sum.elim_inr] at h))
    refine sw_gh ?_
    refine gh_sw ?_
    skip)
 | (with_reducible refine here_meet (N0 := 20000000) ?_
    skip
    refine meet_to (_, _, _) (by decide) ?_ h ?_
    · exact (by simp [slNL, C.inN, V.inN, V.inNs, V.inNss, inNss_dd, inNs_map_d])
    · simp only [SubL, putSt, lk, lkb, reduceCtorEq, Nat.reduceEqDiff, List.length_set, List.length_replicate]; repeat' (first | apply And.intro | rfl | trivial | (simp only [*]; done)))
 | (with_reducible refine here_join (a := (.block 0 _)) (b := (.seq (.seq (.region 11 _ _) _) _)) ?_
    skip
    revert h
    with_reducible refine bind_elimY ?_
    intro o1 h hK1
    unfold spec_Takes.a1 at h
    refine sw_join (ι := GI2) 10000000 (fun x : GI2 => [(.s 3, some (.v (.mp 64 2 0 0))), (.r 64, some (.o 2 [[V.int x.a, V.int x.b]]))]) (fun x => Yes (some (.inr x)) o1) ?_ ?_
    rotate_left
    rintro b1 h
    obtain rfl := h.get
    have h := hK1
    (try (simp only [Sum.elim_inl, Sum.elim_inr] at h))
    refine sw_gh ?_
    refine gh_sw ?_
    skip)
 | (with_reducible refine here_meet (N0 := 10000000) ?_
    skip
    refine meet_to (_) (by decide) ?_ h ?_
    · exact (by simp [slNL, C.inN, V.inN, V.inNs, V.inNss, inNss_dd, inNs_map_d])
    · simp only [SubL, putSt, lk, lkb, reduceCtorEq, Nat.reduceEqDiff, List.length_set, List.length_replicate]; repeat' (first | apply And.intro | rfl | trivial | (simp only [*]; done)))
 | with_reducible refine sw_seq ?_
 | with_reducible refine seqQ_ret ?_
 | with_reducible refine seqQ_exit ?_
 | ((with_reducible refine wp_ite ?_ ?_)
    all_goals (intro hc; (try (simp only [Bool.not_eq_true, Bool.not_eq_false] at hc)); simp only [hc]))
 | (with_reducible apply regW_skip
    · simp only [dstOk, Nat.reduceLT]
    · rfl
    · simp only [putSt, lk, lkb, reduceCtorEq, Nat.reduceEqDiff]; done)
 | (with_reducible apply regW_yesN
    · simp only [dstOk, Nat.reduceLT]
    · rfl
    · simp only [putSt, lk, lkb, reduceCtorEq, Nat.reduceEqDiff]; done)
 | (with_reducible apply regW_no
    · simp only [dstOk, Nat.reduceLT]
    · rfl
    · simp only [putSt, lk, lkb, reduceCtorEq, Nat.reduceEqDiff, Bool.not_true, Bool.not_false]; done)
 | (with_reducible apply regW_guardN
    · simp only [dstOk, Nat.reduceLT]
    · rfl
    · simp only [putSt, lk, lkb, reduceCtorEq, Nat.reduceEqDiff]; rfl
    all_goals (intro hc; (try (simp only [Bool.not_true, Bool.not_false] at hc))))
 | (with_reducible apply sw_cond
    · simp only [putSt, lk, lkb, reduceCtorEq, Nat.reduceEqDiff]; rfl
    all_goals (intro hc; try (cases hc; done)))
 | ((first
     | ((with_reducible refine gh_ret ?_)
        revert h
        with_reducible refine some_elim ?_
        rintro rfl)
     | (with_reducible refine here_call ?_
        revert h
        with_reducible refine bind_elim ?_
        intro t ht h
        (first
          | (refine call_dataE (c_spec_l03Binary ht) ?_ rfl ?_
             · first | rfl | (simp; done))
          | (refine call_dataE (c_spec_l03Unary ht) ?_ rfl ?_
             · first | rfl | (simp; done))))
     | (with_reducible apply regD_opK
        · simp only [dstOk, Nat.reduceLT]
        · simp only [Nat.reduceAdd]; rfl
        intro k hk)
     | (with_reducible apply regW_opK
        · simp only [dstOk, Nat.reduceLT]
        · simp only [Nat.reduceAdd]; rfl
        intro k hk)
     | skip)
    simp only [RetW, bn, lkb, evb, opC, opP, fetchN, fetchP, fetchAll, fetchO, Prog.bind, Prog.wp, Prog.wp_bind, lk, nameP, nameAll, Value.oneCell', putSt, stepP, putP, reduceCtorEq, V.lin, V.linL, D.lin, isNil, binP, unP, BinOp.isShift, Prog.ofO, Nat.reduceAdd, Nat.reduceMul, Nat.reduceSub, Nat.reduceLT, Nat.reduceLeDiff, Nat.reduceEqDiff, ite_true, ite_false, fieldAddrP, fieldP, indexAddrP, loadP, storeP, boxP, allocP, cellsP, asVal, setSeg, outP, outT, cntT, TyK.field, TyK.agg, zeroRow, V.ren, V.renL, forall_eq_or_imp, forall_const, minmaxP, lenP, lenOf, lenStr, V.asInt, decide_true, decide_false, sliceP, boundP, makeSliceP, convertP, appendP, rowsOfP, ontoP, sizeFits, V.rowSize, TyK.src, resV, resV.go, resV.gol, retP, retOne, retAll, resTo, objsAre, Option.map_eq_map, Function.const_apply, Int.reduceNeg, Int.reduceToNat, ty2, ty28, ty30, ty63, ty65, ty107, GFunc.cells, GI2.cells, GProgram.cells, cI, cB, cS, cL, GI2_e, GFunc_e, GProgram_e, *]
    try (refine hk.use _ _ _ _ ?_; clear hk k))
 | fail)
  all_goals (try rfl)
  all_goals (try (simp; done))
  all_goals (try (simp_all; done))
def spec_Puts.a1 (k : Nat) (a1 : GI2) : Option ((Int) ⊕ (GI2)) :=
  (spec_l03Binary a1.a).bind fun t1 => cond t1 (some (.inl (1))) ((spec_l03Unary a1.a).bind fun t2 => cond t2 (some (.inl (1))) (some (.inr (a1))))
def spec_Puts (k : Nat) (p0 : GI2) : Option (Int) :=
  (spec_Puts.a1 k p0).bind fun o1 => Sum.elim (fun o1l => some o1l) (fun o1r => cond ((o1r.a == 4)) (some 2) (cond ((o1r.a == 1)) (some 1) (cond ((o1r.a == 2)) (some 1) (cond ((o1r.a == 32)) (some 1) (cond ((o1r.a == 34)) (some 1) (cond ((o1r.a == 35)) (some 1) (cond ((o1r.a == 37)) (some 1) (some 0)))))))) o1
theorem c_spec_Puts {k : Nat} {p0 : GI2} {r : Int} (h : spec_Puts k p0 = some r) : Con Try.prog 82 [.agg [V.int p0.a, V.int p0.b]] [] (V.int r) [] := by
  refine con_of_sw Try.func82 rfl Try.call82 (by simp [Try.ntmps82]) (by simp [V.inNs, V.inN]) (by simp [C.inN, V.inNss, V.inNs, V.inN, inNss_dd]) (by simp [V.inNs, V.inN]) (by simp [C.inN, V.inNss, V.inNs, V.inN, inNss_dd]) rfl ?_
  rw [Try.ntmps82, Try.results82]
  unfold spec_Puts at h
  replace h := Yes.mk h
  simp only [entryS, entryO, Nat.reduceAdd, List.length_nil, List.length_cons]
  repeat' (first
 | (with_reducible (first | refine sw_reg ?_ | refine sw_ret ?_ | refine sw_skip ?_ | refine sw_block ?_ | refine sw_exit ?_ | refine seqQ_normal ?_ | refine blockQ_normal ?_ | refine blockQ_ret ?_ | refine blockQ_this ?_ | refine blockQ_other (by decide) ?_ | refine regW_nil ?_ | refine sw_draw mixed ?_ | refine retQ_ret ?_ | refine retQ_normal ?_))
 | (with_reducible refine regD_nil ?_
    refine ⟨by kernel_rfl, ?_⟩)
 | (revert h; (first | ((with_reducible refine idx_elim ?_); intro m hm1 hm2 hm3 h; (try (simp only [Int.reduceToNat] at hm3)); (try (revert hm3; (with_reducible apply same_elim); (focus (with_reducible assumption)); rintro rfl)); (try (simp only [List.length_set, List.length_cons, List.length_nil, List.length_replicate, Nat.reduceAdd, Int.cast_ofNat_Int, Nat.zero_add, List.length_append] at hm2))) | (with_reducible refine sidx_elim ?_; intro m hm1 hm3 h) | (with_reducible refine gd_elim ?_; intro hg h; try (have hg2 := hg.2; have hg := hg.1; (try (simp only [Nat.reduceLeDiff] at hg2)); (try (revert hg2; (with_reducible refine toNat_elim hg ?_); intro hg2 hg4)); try (have hg3 := hg2.2; have hg2 := hg2.1; (try (simp only [Nat.reduceLeDiff] at hg3))))) | (with_reducible refine condt_elim ?_ ?_; (focus (with_reducible assumption)); intro h) | (with_reducible refine condf_elim ?_ ?_; (focus (with_reducible assumption)); intro h)))
 | ((first | with_reducible refine seqQ_ret (K := (fun st1 n1 => Gh st1 n1 (MeetA _ 10000000 _ _))) ?_ | with_reducible refine seqQ_exit (K := (fun st1 n1 => Gh st1 n1 (MeetA _ 10000000 _ _))) ?_)
    obtain rfl := h.get
    have h := hK1
    (try (simp only [Sum.elim_inl, Sum.elim_inr] at h)))
 | (with_reducible refine here_join (a := (.seq (.region 1 _ _) _)) (b := (.seq (.seq (.region 3 _ _) _) _)) ?_
    skip
    revert h
    with_reducible refine bind_elimY ?_
    intro o1 h hK1
    unfold spec_Puts.a1 at h
    refine sw_join (ι := GI2) 10000000 (fun x : GI2 => [(.s 1, some (.v (.mp 0 2 0 0))), (.r 0, some (.o 2 [[V.int x.a, V.int x.b]]))]) (fun x => Yes (some (.inr x)) o1) ?_ ?_
    rotate_left
    rintro b1 h
    obtain rfl := h.get
    have h := hK1
    (try (simp only [Sum.elim_inl, Sum.elim_inr] at h))
    refine sw_gh ?_
    refine gh_sw ?_
    skip)
 | (with_reducible refine here_meet (N0 := 10000000) ?_
    skip
    refine meet_to (_) (by decide) ?_ h ?_
    · exact (by simp [slNL, C.inN, V.inN, V.inNs, V.inNss, inNss_dd, inNs_map_d])
    · simp only [SubL, putSt, lk, lkb, reduceCtorEq, Nat.reduceEqDiff, List.length_set, List.length_replicate]; repeat' (first | apply And.intro | rfl | trivial | (simp only [*]; done)))
 | with_reducible refine sw_seq ?_
 | with_reducible refine seqQ_ret ?_
 | with_reducible refine seqQ_exit ?_
 | ((with_reducible refine wp_ite ?_ ?_)
    all_goals (intro hc; (try (simp only [Bool.not_eq_true, Bool.not_eq_false] at hc)); simp only [hc]))
 | (with_reducible apply regW_skip
    · simp only [dstOk, Nat.reduceLT]
    · rfl
    · simp only [putSt, lk, lkb, reduceCtorEq, Nat.reduceEqDiff]; done)
 | (with_reducible apply regW_yesN
    · simp only [dstOk, Nat.reduceLT]
    · rfl
    · simp only [putSt, lk, lkb, reduceCtorEq, Nat.reduceEqDiff]; done)
 | (with_reducible apply regW_no
    · simp only [dstOk, Nat.reduceLT]
    · rfl
    · simp only [putSt, lk, lkb, reduceCtorEq, Nat.reduceEqDiff, Bool.not_true, Bool.not_false]; done)
 | (with_reducible apply regW_guardN
    · simp only [dstOk, Nat.reduceLT]
    · rfl
    · simp only [putSt, lk, lkb, reduceCtorEq, Nat.reduceEqDiff]; rfl
    all_goals (intro hc; (try (simp only [Bool.not_true, Bool.not_false] at hc))))
 | (with_reducible apply sw_cond
    · simp only [putSt, lk, lkb, reduceCtorEq, Nat.reduceEqDiff]; rfl
    all_goals (intro hc; try (cases hc; done)))
 | ((first
     | ((with_reducible refine gh_ret ?_)
        revert h
        with_reducible refine some_elim ?_
        rintro rfl)
     | (with_reducible refine here_call ?_
        revert h
        with_reducible refine bind_elim ?_
        intro t ht h
        (first
          | (refine call_dataE (c_spec_l03Binary ht) ?_ rfl ?_
             · first | rfl | (simp; done))
          | (refine call_dataE (c_spec_l03Unary ht) ?_ rfl ?_
             · first | rfl | (simp; done))))
     | (with_reducible apply regD_opK
        · simp only [dstOk, Nat.reduceLT]
        · simp only [Nat.reduceAdd]; rfl
        intro k hk)
     | (with_reducible apply regW_opK
        · simp only [dstOk, Nat.reduceLT]
        · simp only [Nat.reduceAdd]; rfl
        intro k hk)
     | skip)
    simp only [RetW, bn, lkb, evb, opC, opP, fetchN, fetchP, fetchAll, fetchO, Prog.bind, Prog.wp, Prog.wp_bind, lk, nameP, nameAll, Value.oneCell', putSt, stepP, putP, reduceCtorEq, V.lin, V.linL, D.lin, isNil, binP, unP, BinOp.isShift, Prog.ofO, Nat.reduceAdd, Nat.reduceMul, Nat.reduceSub, Nat.reduceLT, Nat.reduceLeDiff, Nat.reduceEqDiff, ite_true, ite_false, fieldAddrP, fieldP, indexAddrP, loadP, storeP, boxP, allocP, cellsP, asVal, setSeg, outP, outT, cntT, TyK.field, TyK.agg, zeroRow, V.ren, V.renL, forall_eq_or_imp, forall_const, minmaxP, lenP, lenOf, lenStr, V.asInt, decide_true, decide_false, sliceP, boundP, makeSliceP, convertP, appendP, rowsOfP, ontoP, sizeFits, V.rowSize, TyK.src, resV, resV.go, resV.gol, retP, retOne, retAll, resTo, objsAre, Option.map_eq_map, Function.const_apply, Int.reduceNeg, Int.reduceToNat, ty2, ty107, GI2.cells, cI, cB, cS, cL, GI2_e, *]
    try (refine hk.use _ _ _ _ ?_; clear hk k))
 | fail)
  all_goals (try rfl)
  all_goals (try (simp; done))
  all_goals (try (simp_all; done))
def spec_l04Heights.l1 : Nat → (List GFunc) → GI3 → (List Int) → Int → (List GI2) → Int → Option ((List GFunc) × GI3 × (List Int) × Int × (List GI2))
  | 0, _, _, _, _, _, _ => none
  | k + 1, a1, a2, a3, a4, a5, a6 => cond ((decide (a6 < ((a3.length : Int))))) ((idx a3 a6).bind fun m2 => spec_l04Heights.l1 k a1 a2 ((a3.set a6.toNat ((-1)))) a4 a5 ((IntKind.i64.wrap (a6 + 1)))) (some (a1, a2, a3, a4, a5))
def spec_l04Heights.a3 (k : Nat) (a1 : (List GFunc)) (a2 : GI3) (a3 : (List Int)) (a4 : (List Bool)) (a5 : GI2) (a6 : GI3) (a7 : Int) (a8 : (List GI2)) (a9 : Int) (a10 : Int) (a11 : Int) : Option (((List Int) × GI3) ⊕ ((List GFunc) × GI3 × (List Int) × (List Bool) × GI2 × GI3 × Int × (List GI2) × Int × Int)) :=
  (idx a3 a9).bind fun m11 => cond ((decide (a10 > m11))) (some (.inl (a3, a6))) (cond ((decide (a11 > 8))) (some (.inl (a3, a6))) (some (.inr (a1, a2, a3, a4, a5, a6, a7, a8, a9, a11))))
def spec_l04Heights.a4 (k : Nat) (a1 : (List GFunc)) (a2 : GI3) (a3 : (List Int)) (a4 : (List Bool)) (a5 : GI2) (a6 : GI3) (a7 : (List Int)) (a8 : Int) (a9 : (List GI2)) (a10 : Int) (a11 : Int) : Option ((List GFunc) × GI3 × (List Int) × (List Bool) × GI2 × GI3 × Int × (List GI2) × Int × (List Int)) :=
  cond ((a5.a != 30)) (cond ((a5.a != 33)) (gd ((a7.length + 1) * 8 ≤ 35184372088832 ∧ a7.length + 1 ≤ 35184372088832) (some (a1, a2, a3, a4, a5, a6, a8, a9, a11, (a7 ++ [(IntKind.i64.wrap (a10 + 1))])))) (some (a1, a2, a3, a4, a5, a6, a8, a9, a11, a7))) (some (a1, a2, a3, a4, a5, a6, a8, a9, a11, a7))
def spec_l04Heights.a5 (k : Nat) (a1 : (List GFunc)) (a2 : GI3) (a3 : (List Int)) (a4 : (List Bool)) (a5 : GI2) (a6 : GI3) (a7 : (List Int)) (a8 : Int) (a9 : (List GI2)) (a10 : Int) : Option ((List GFunc) × GI3 × (List Int) × (List Bool) × GI3 × Int × (List GI2) × Int × (List Int)) :=
  cond ((a5.a == 30)) (gd ((a7.length + 1) * 8 ≤ 35184372088832 ∧ a7.length + 1 ≤ 35184372088832) (some (a1, a2, a3, a4, a6, a8, a9, a10, (a7 ++ [a5.b])))) (cond ((a5.a == 31)) (gd ((a7.length + 1) * 8 ≤ 35184372088832 ∧ a7.length + 1 ≤ 35184372088832) (some (a1, a2, a3, a4, a6, a8, a9, a10, (a7 ++ [a5.b])))) (some (a1, a2, a3, a4, a6, a8, a9, a10, a7)))
def spec_l04Heights.a7 (k : Nat) (a1 : (List GFunc)) (a2 : GI3) (a3 : (List Int)) (a4 : (List Bool)) (a5 : GI3) (a6 : (List Int)) (a7 : Int) (a8 : (List GI2)) (a9 : Int) (a10 : Int) : Option (((List Int) × GI3) ⊕ ((List GFunc) × GI3 × (List Int) × (List Bool) × GI3 × (List Int) × Int × (List GI2) × Int × Int)) :=
  (idx a6 a10).bind fun m13 => (idx a3 m13).bind fun m14 => cond ((decide (m14 ≥ 0))) (cond ((m14 != a9)) (some (.inl (a3, a5))) (some (.inr (a1, a2, a3, a4, a5, a6, a7, a8, a9, a10)))) (some (.inr (a1, a2, a3, a4, a5, a6, a7, a8, a9, a10)))
def spec_l04Heights.l6 : Nat → (List GFunc) → GI3 → (List Int) → (List Bool) → GI3 → (List Int) → Int → (List GI2) → Int → Int → Option (((List Int) × GI3) ⊕ ((List GFunc) × GI3 × (List Int) × (List Bool) × Int × (List GI2)))
  | 0, _, _, _, _, _, _, _, _, _, _ => none
  | k + 1, a1, a2, a3, a4, a5, a6, a7, a8, a9, a10 => cond ((decide (a10 < ((a6.length : Int))))) ((idx a6 a10).bind fun m12 => cond ((decide (m12 ≥ ((a8.length : Int))))) (some (.inl (a3, (⟨a5.a, a5.b, 6⟩ : GI3)))) ((spec_l04Heights.a7 k a1 a2 a3 a4 a5 a6 a7 a8 a9 a10).bind fun o7 => Sum.elim (fun o7l => some (.inl (o7l.1, o7l.2))) (fun o7r => (idx o7r.2.2.2.2.2.1 o7r.2.2.2.2.2.2.2.2.2).bind fun m15 => (idx o7r.2.2.1 m15).bind fun m16 => cond ((decide (m16 < 0))) ((idx o7r.2.2.2.1 m15).bind fun m17 => spec_l04Heights.l6 k o7r.1 o7r.2.1 ((o7r.2.2.1.set m15.toNat o7r.2.2.2.2.2.2.2.2.1)) ((o7r.2.2.2.1.set m15.toNat true)) o7r.2.2.2.2.1 o7r.2.2.2.2.2.1 o7r.2.2.2.2.2.2.1 o7r.2.2.2.2.2.2.2.1 o7r.2.2.2.2.2.2.2.2.1 ((IntKind.i64.wrap (o7r.2.2.2.2.2.2.2.2.2 + 1)))) (spec_l04Heights.l6 k o7r.1 o7r.2.1 o7r.2.2.1 o7r.2.2.2.1 o7r.2.2.2.2.1 o7r.2.2.2.2.2.1 o7r.2.2.2.2.2.2.1 o7r.2.2.2.2.2.2.2.1 o7r.2.2.2.2.2.2.2.2.1 ((IntKind.i64.wrap (o7r.2.2.2.2.2.2.2.2.2 + 1))))) o7)) (some (.inr (a1, a2, a3, a4, a7, a8)))
def spec_l04Heights.l2 : Nat → (List GFunc) → GI3 → (List Int) → (List Bool) → Int → (List GI2) → Option ((List Int) × GI3)
  | 0, _, _, _, _, _, _ => none
  | k + 1, a1, a2, a3, a4, a5, a6 => (spec_l04Least k a4).bind fun t5 => cond ((decide (t5 < 0))) (some (a3, (⟨0, 0, 0⟩ : GI3))) ((idx a4 t5).bind fun m6 => (idx a6 t5).bind fun m7 => (spec_Takes k ((⟨a1⟩ : GProgram)) m7).bind fun t8 => (idx a3 t5).bind fun m9 => (spec_Puts k m7).bind fun t10 => (spec_l04Heights.a3 k a1 a2 a3 ((a4.set t5.toNat false)) m7 ((⟨a5, t5, 5⟩ : GI3)) a5 a6 t5 t8 ((IntKind.i64.wrap (((IntKind.i64.wrap (m9 - t8))) + t10)))).bind fun o3 => Sum.elim (fun o3l => some (o3l.1, o3l.2)) (fun o3r => (spec_l04Heights.a4 k o3r.1 o3r.2.1 o3r.2.2.1 o3r.2.2.2.1 o3r.2.2.2.2.1 o3r.2.2.2.2.2.1 [] o3r.2.2.2.2.2.2.1 o3r.2.2.2.2.2.2.2.1 o3r.2.2.2.2.2.2.2.2.1 o3r.2.2.2.2.2.2.2.2.2).bind fun o4 => (spec_l04Heights.a5 k o4.1 o4.2.1 o4.2.2.1 o4.2.2.2.1 o4.2.2.2.2.1 o4.2.2.2.2.2.1 o4.2.2.2.2.2.2.2.2.2 o4.2.2.2.2.2.2.1 o4.2.2.2.2.2.2.2.1 o4.2.2.2.2.2.2.2.2.1).bind fun o5 => (spec_l04Heights.l6 k o5.1 o5.2.1 o5.2.2.1 o5.2.2.2.1 o5.2.2.2.2.1 o5.2.2.2.2.2.2.2.2 o5.2.2.2.2.2.1 o5.2.2.2.2.2.2.1 o5.2.2.2.2.2.2.2.1 0).bind fun o6 => Sum.elim (fun o6l => some (o6l.1, o6l.2)) (fun o6r => spec_l04Heights.l2 k o6r.1 o6r.2.1 o6r.2.2.1 o6r.2.2.2.1 o6r.2.2.2.2.1 o6r.2.2.2.2.2) o6) o3)
def spec_l04Heights (k : Nat) (p0 : GProgram) (p1 : Int) : Option ((List Int) × GI3) :=
  (idx p0.funcs p1).bind fun m1 => gd (0 ≤ (m1.code.length : Int) ∧ ((m1.code.length : Int)) * 8 ≤ 35184372088832 ∧ (m1.code.length : Int) ≤ 35184372088832) ((spec_l04Heights.l1 k p0.funcs ((⟨0, 0, 0⟩ : GI3)) ((List.replicate m1.code.length 0)) p1 m1.code 0).bind fun o1 => (idx o1.2.2.1 0).bind fun m3 => gd (0 ≤ (o1.2.2.2.2.length : Int) ∧ ((o1.2.2.2.2.length : Int)) * 1 ≤ 35184372088832 ∧ (o1.2.2.2.2.length : Int) ≤ 35184372088832) ((idx ((List.replicate o1.2.2.2.2.length false)) 0).bind fun m4 => (spec_l04Heights.l2 k o1.1 o1.2.1 ((o1.2.2.1.set 0 0)) ((((List.replicate o1.2.2.2.2.length false)).set 0 true)) o1.2.2.2.1 o1.2.2.2.2).bind fun o2 => some (o2.1, o2.2)))
theorem c_spec_l04Heights {k : Nat} {p0 : GProgram} {p1 : Int} {r : (List Int) × GI3} (h : spec_l04Heights k p0 p1 = some r) : Con Try.prog 46 [.agg [.d (.row .bor 3 (Rw (GFunc.cells .bor) p0.funcs))], V.int p1] [] (.tup [.d (.row .own 1 (Rw (cI .i64) r.1)), .agg [V.int r.2.a, V.int r.2.b, V.int r.2.c]]) [] := by
  refine con_of_sw Try.func46 rfl Try.call46 (by simp [Try.ntmps46]) (by simp [V.inNs, V.inN]) (by simp [C.inN, V.inNss, V.inNs, V.inN, inNss_dd]) (by simp [V.inNs, V.inN]) (by simp [C.inN, V.inNss, V.inNs, V.inN, inNss_dd]) rfl ?_
  rw [Try.ntmps46, Try.results46]
  unfold spec_l04Heights at h
  replace h := Yes.mk h
  simp only [entryS, entryO, Nat.reduceAdd, List.length_nil, List.length_cons]
  repeat' (first
 | (with_reducible (first | refine sw_reg ?_ | refine sw_ret ?_ | refine sw_skip ?_ | refine sw_block ?_ | refine sw_exit ?_ | refine seqQ_normal ?_ | refine blockQ_normal ?_ | refine blockQ_ret ?_ | refine blockQ_this ?_ | refine blockQ_other (by decide) ?_ | refine regW_nil ?_ | refine sw_draw mixed ?_ | refine retQ_ret ?_ | refine retQ_normal ?_))
 | (with_reducible refine regD_nil ?_
    refine ⟨by kernel_rfl, ?_⟩)
 | (revert h; (first | ((with_reducible refine idx_elim ?_); intro m hm1 hm2 hm3 h; (try (simp only [Int.reduceToNat] at hm3)); (try (revert hm3; (with_reducible apply same_elim); (focus (with_reducible assumption)); rintro rfl)); (try (simp only [List.length_set, List.length_cons, List.length_nil, List.length_replicate, Nat.reduceAdd, Int.cast_ofNat_Int, Nat.zero_add, List.length_append] at hm2))) | (with_reducible refine sidx_elim ?_; intro m hm1 hm3 h) | (with_reducible refine gd_elim ?_; intro hg h; try (have hg2 := hg.2; have hg := hg.1; (try (simp only [Nat.reduceLeDiff] at hg2)); (try (revert hg2; (with_reducible refine toNat_elim hg ?_); intro hg2 hg4)); try (have hg3 := hg2.2; have hg2 := hg2.1; (try (simp only [Nat.reduceLeDiff] at hg3))))) | (with_reducible refine condt_elim ?_ ?_; (focus (with_reducible assumption)); intro h) | (with_reducible refine condf_elim ?_ ?_; (focus (with_reducible assumption)); intro h)))
 | ((first | with_reducible refine seqQ_ret (K := (fun st1 n1 => Gh st1 n1 (MeetA _ 70000000 _ _))) ?_ | with_reducible refine seqQ_exit (K := (fun st1 n1 => Gh st1 n1 (MeetA _ 70000000 _ _))) ?_)
    obtain rfl := h.get
    have h := hK7
    (try (simp only [Sum.elim_inl, Sum.elim_inr] at h)))
 | ((first | with_reducible refine seqQ_ret (K := (fun st1 n1 => Gh st1 n1 (NextS _ 60000000 _ _ _ _))) ?_ | with_reducible refine seqQ_exit (K := (fun st1 n1 => Gh st1 n1 (NextS _ 60000000 _ _ _ _))) ?_)
    obtain rfl := h.get
    have h := hK6
    (try (simp only [Sum.elim_inl, Sum.elim_inr] at h)))
 | ((first | with_reducible refine seqQ_ret (K := (fun st1 n1 => Gh st1 n1 (MeetA _ 50000000 _ _))) ?_ | with_reducible refine seqQ_exit (K := (fun st1 n1 => Gh st1 n1 (MeetA _ 50000000 _ _))) ?_)
    obtain rfl := h.get
    have h := hK5
    (try (simp only [Sum.elim_inl, Sum.elim_inr] at h)))
 | ((first | with_reducible refine seqQ_ret (K := (fun st1 n1 => Gh st1 n1 (MeetA _ 40000000 _ _))) ?_ | with_reducible refine seqQ_exit (K := (fun st1 n1 => Gh st1 n1 (MeetA _ 40000000 _ _))) ?_)
    obtain rfl := h.get
    have h := hK4
    (try (simp only [Sum.elim_inl, Sum.elim_inr] at h)))
 | ((first | with_reducible refine seqQ_ret (K := (fun st1 n1 => Gh st1 n1 (MeetA _ 30000000 _ _))) ?_ | with_reducible refine seqQ_exit (K := (fun st1 n1 => Gh st1 n1 (MeetA _ 30000000 _ _))) ?_)
    obtain rfl := h.get
    have h := hK3
    (try (simp only [Sum.elim_inl, Sum.elim_inr] at h)))
 | ((first | with_reducible refine seqQ_ret (K := (fun st1 n1 => Gh st1 n1 (NextS _ 20000000 _ _ _ _))) ?_ | with_reducible refine seqQ_exit (K := (fun st1 n1 => Gh st1 n1 (NextS _ 20000000 _ _ _ _))) ?_)
    obtain rfl := h.get
    have h := hK2
    (try (simp only [Sum.elim_inl, Sum.elim_inr] at h)))
 | ((first | with_reducible refine seqQ_ret (K := (fun st1 n1 => Gh st1 n1 (NextS _ 10000000 _ _ _ _))) ?_ | with_reducible refine seqQ_exit (K := (fun st1 n1 => Gh st1 n1 (NextS _ 10000000 _ _ _ _))) ?_)
    obtain rfl := h.get
    have h := hK1
    (try (simp only [Sum.elim_inl, Sum.elim_inr] at h)))
 | (with_reducible refine here_join (a := (.seq (.region 31 _ _) _)) (b := (.seq (.region 33 _ _) _)) ?_
    skip
    revert h
    with_reducible refine bind_elimY ?_
    intro o7 h hK7
    unfold spec_l04Heights.a7 at h
    refine sw_join (ι := (List GFunc) × GI3 × (List Int) × (List Bool) × GI3 × (List Int) × Int × (List GI2) × Int × Int) 70000000 (fun x : (List GFunc) × GI3 × (List Int) × (List Bool) × GI3 × (List Int) × Int × (List GI2) × Int × Int => [(.s 1, some (.v (V.int x.2.2.2.2.2.2.1))), (.s 2, some (.v (.mp 0 1 0 0))), (.s 5, some (.v (.mp 128 3 0 0))), (.s 6, some (.v (.d (.row .bor 2 (Rw GI2.cells x.2.2.2.2.2.2.2.1))))), (.s 7, some (.v (.sl 832 1 0 x.2.2.1.length))), (.s 9, some (.v (.sl 10000640 1 0 x.2.2.2.1.length))), (.s 12, some (.v (.mp 20001152 3 0 0))), (.s 14, some (.v (V.int x.2.2.2.2.2.2.2.2.1))), (.s 15, some (.v (.sl 50000000 1 0 x.2.2.2.2.2.1.length))), (.s 16, some (.v (V.int x.2.2.2.2.2.2.2.2.2))), (.r 0, some (.o 1 [[.d (.row .bor 3 (Rw (GFunc.cells .bor) x.1))]])), (.r 128, some (.o 3 [[V.int x.2.1.a, V.int x.2.1.b, V.int x.2.1.c]])), (.r 832, some (.o 1 (dd (Rw (cI .i64) x.2.2.1)))), (.r 10000640, some (.o 1 (dd (Rw cB x.2.2.2.1)))), (.r 20001152, some (.o 3 [[V.int x.2.2.2.2.1.a, V.int x.2.2.2.2.1.b, V.int x.2.2.2.2.1.c]])), (.r 50000000, some (.o 1 (dd (Rw (cI .i64) x.2.2.2.2.2.1))))]) (fun x => Yes (some (.inr x)) o7) ?_ ?_
    rotate_left
    rintro ⟨b1, b2, b3, b4, b5, b6, b7, b8, b9, b10⟩ h
    obtain rfl := h.get
    have h := hK7
    (try (simp only [Sum.elim_inl, Sum.elim_inr] at h))
    refine sw_gh ?_
    refine gh_sw ?_
    skip)
 | (with_reducible refine here_meet (N0 := 70000000) ?_
    skip
    refine meet_to (_, _, _, _, _, _, _, _, _, _) (by decide) ?_ h ?_
    · exact (by simp [slNL, C.inN, V.inN, V.inNs, V.inNss, inNss_dd, inNs_map_d])
    · simp only [SubL, putSt, lk, lkb, reduceCtorEq, Nat.reduceEqDiff, List.length_set, List.length_replicate]; repeat' (first | apply And.intro | rfl | trivial | (simp only [*]; done)))
 | (with_reducible refine here_loop (c := (.seq (.seq (.region 26 _ _) _) _)) ?_
    skip
    revert h
    with_reducible refine bind_elimY ?_
    intro o6 h hK6
    refine sw_loop (ι := Nat × (List GFunc) × GI3 × (List Int) × (List Bool) × GI3 × (List Int) × Int × (List GI2) × Int × Int) 60000000 (by decide) (fun x : Nat × (List GFunc) × GI3 × (List Int) × (List Bool) × GI3 × (List Int) × Int × (List GI2) × Int × Int => [(.s 1, some (.v (V.int x.2.2.2.2.2.2.2.1))), (.s 2, some (.v (.mp 0 1 0 0))), (.s 5, some (.v (.mp 128 3 0 0))), (.s 6, some (.v (.d (.row .bor 2 (Rw GI2.cells x.2.2.2.2.2.2.2.2.1))))), (.s 7, some (.v (.sl 832 1 0 x.2.2.2.1.length))), (.s 9, some (.v (.sl 10000640 1 0 x.2.2.2.2.1.length))), (.s 12, some (.v (.mp 20001152 3 0 0))), (.s 14, some (.v (V.int x.2.2.2.2.2.2.2.2.2.1))), (.s 15, some (.v (.sl 50000000 1 0 x.2.2.2.2.2.2.1.length))), (.s 16, some (.v (V.int x.2.2.2.2.2.2.2.2.2.2))), (.r 0, some (.o 1 [[.d (.row .bor 3 (Rw (GFunc.cells .bor) x.2.1))]])), (.r 128, some (.o 3 [[V.int x.2.2.1.a, V.int x.2.2.1.b, V.int x.2.2.1.c]])), (.r 832, some (.o 1 (dd (Rw (cI .i64) x.2.2.2.1)))), (.r 10000640, some (.o 1 (dd (Rw cB x.2.2.2.2.1)))), (.r 20001152, some (.o 3 [[V.int x.2.2.2.2.2.1.a, V.int x.2.2.2.2.2.1.b, V.int x.2.2.2.2.2.1.c]])), (.r 50000000, some (.o 1 (dd (Rw (cI .i64) x.2.2.2.2.2.2.1))))]) (fun x => x.1) (fun x => Yes (spec_l04Heights.l6 x.1 x.2.1 x.2.2.1 x.2.2.2.1 x.2.2.2.2.1 x.2.2.2.2.2.1 x.2.2.2.2.2.2.1 x.2.2.2.2.2.2.2.1 x.2.2.2.2.2.2.2.2.1 x.2.2.2.2.2.2.2.2.2.1 x.2.2.2.2.2.2.2.2.2.2) o6) (_, _, _, _, _, _, _, _, _, _, _) ?_ h ?_ ?_
    · exact (by simp [slNL, C.inN, V.inN, V.inNs, V.inNss, inNss_dd, inNs_map_d])
    · simp only [SubL, putSt, lk, lkb, reduceCtorEq, Nat.reduceEqDiff, List.length_set, List.length_replicate]; repeat' (first | apply And.intro | rfl | trivial | (simp only [*]; done))
    rintro ⟨_ | k, a1, a2, a3, a4, a5, a6, a7, a8, a9, a10⟩ h
    · simp only [spec_l04Heights.l6] at h; exact h.none
    simp only [spec_l04Heights.l6] at h
)
 | (with_reducible refine here_next (N0 := 60000000) ?_
    skip
    refine nexts_to (_, _, _, _, _, _, _, _, _, _, _) (by decide) ?_ (Nat.lt_succ_self _) h ?_
    · exact (by simp [slNL, C.inN, V.inN, V.inNs, V.inNss, inNss_dd, inNs_map_d])
    · simp only [SubL, putSt, lk, lkb, reduceCtorEq, Nat.reduceEqDiff, List.length_set, List.length_replicate]; repeat' (first | apply And.intro | rfl | trivial | (simp only [*]; done)))
 | (with_reducible refine here_join (a := (.seq (.region 23 _ _) _)) (b := (.seq (.region 25 _ _) _)) ?_
    skip
    revert h
    with_reducible refine bind_elimY ?_
    intro o5 h hK5
    unfold spec_l04Heights.a5 at h
    refine sw_join (ι := (List GFunc) × GI3 × (List Int) × (List Bool) × GI3 × Int × (List GI2) × Int × (List Int)) 50000000 (fun x : (List GFunc) × GI3 × (List Int) × (List Bool) × GI3 × Int × (List GI2) × Int × (List Int) => [(.s 1, some (.v (V.int x.2.2.2.2.2.1))), (.s 2, some (.v (.mp 0 1 0 0))), (.s 5, some (.v (.mp 128 3 0 0))), (.s 6, some (.v (.d (.row .bor 2 (Rw GI2.cells x.2.2.2.2.2.2.1))))), (.s 7, some (.v (.sl 832 1 0 x.2.2.1.length))), (.s 9, some (.v (.sl 10000640 1 0 x.2.2.2.1.length))), (.s 12, some (.v (.mp 20001152 3 0 0))), (.s 14, some (.v (V.int x.2.2.2.2.2.2.2.1))), (.s 15, some (.v (.d (.row .own 1 (Rw (cI .i64) x.2.2.2.2.2.2.2.2))))), (.r 0, some (.o 1 [[.d (.row .bor 3 (Rw (GFunc.cells .bor) x.1))]])), (.r 128, some (.o 3 [[V.int x.2.1.a, V.int x.2.1.b, V.int x.2.1.c]])), (.r 832, some (.o 1 (dd (Rw (cI .i64) x.2.2.1)))), (.r 10000640, some (.o 1 (dd (Rw cB x.2.2.2.1)))), (.r 20001152, some (.o 3 [[V.int x.2.2.2.2.1.a, V.int x.2.2.2.2.1.b, V.int x.2.2.2.2.1.c]]))]) (fun x => Yes (some (x)) o5) ?_ ?_
    rotate_left
    rintro ⟨b1, b2, b3, b4, b5, b6, b7, b8, b9⟩ h
    obtain rfl := h.get
    have h := hK5
    (try (simp only [Sum.elim_inl, Sum.elim_inr] at h))
    refine sw_gh ?_
    refine gh_nameSlot 15 ?_
    simp only [rxb, Nat.reduceAdd, Nat.reduceLeDiff, resSlotP, nameSlotP, Prog.wp, Prog.wp_bind, Prog.bind, Prog.ofO, putSt, lk, lkb, reduceCtorEq, Nat.reduceEqDiff, resV, resV.go, resV.gol, nameAll, nameP, outP, outT, cntT, V.lin, D.lin, Nat.reduceAdd]
    refine gh_sw ?_
    skip)
 | (with_reducible refine here_meet (N0 := 50000000) ?_
    skip
    refine gh_resSlot 15 ?_
    simp only [rxb, Nat.reduceAdd, Nat.reduceLeDiff, resSlotP, nameSlotP, Prog.wp, Prog.wp_bind, Prog.bind, Prog.ofO, putSt, lk, lkb, reduceCtorEq, Nat.reduceEqDiff, resV, resV.go, resV.gol, nameAll, nameP, outP, outT, cntT, V.lin, D.lin, *]
    refine meet_to (_, _, _, _, _, _, _, _, _) (by decide) ?_ h ?_
    · exact (by simp [slNL, C.inN, V.inN, V.inNs, V.inNss, inNss_dd, inNs_map_d])
    · simp only [SubL, putSt, lk, lkb, reduceCtorEq, Nat.reduceEqDiff, List.length_set, List.length_replicate]; repeat' (first | apply And.intro | rfl | trivial | (simp only [*]; done)))
 | (with_reducible refine here_join (a := (.seq (.region 21 _ _) _)) (b := (.seq (.seq (.region 23 _ _) _) _)) ?_
    skip
    revert h
    with_reducible refine bind_elimY ?_
    intro o4 h hK4
    unfold spec_l04Heights.a4 at h
    refine sw_join (ι := (List GFunc) × GI3 × (List Int) × (List Bool) × GI2 × GI3 × Int × (List GI2) × Int × (List Int)) 40000000 (fun x : (List GFunc) × GI3 × (List Int) × (List Bool) × GI2 × GI3 × Int × (List GI2) × Int × (List Int) => [(.s 1, some (.v (V.int x.2.2.2.2.2.2.1))), (.s 2, some (.v (.mp 0 1 0 0))), (.s 5, some (.v (.mp 128 3 0 0))), (.s 6, some (.v (.d (.row .bor 2 (Rw GI2.cells x.2.2.2.2.2.2.2.1))))), (.s 7, some (.v (.sl 832 1 0 x.2.2.1.length))), (.s 9, some (.v (.sl 10000640 1 0 x.2.2.2.1.length))), (.s 11, some (.v (.mp 20000832 2 0 0))), (.s 12, some (.v (.mp 20001152 3 0 0))), (.s 14, some (.v (V.int x.2.2.2.2.2.2.2.2.1))), (.s 15, some (.v (.d (.row .own 1 (Rw (cI .i64) x.2.2.2.2.2.2.2.2.2))))), (.r 0, some (.o 1 [[.d (.row .bor 3 (Rw (GFunc.cells .bor) x.1))]])), (.r 128, some (.o 3 [[V.int x.2.1.a, V.int x.2.1.b, V.int x.2.1.c]])), (.r 832, some (.o 1 (dd (Rw (cI .i64) x.2.2.1)))), (.r 10000640, some (.o 1 (dd (Rw cB x.2.2.2.1)))), (.r 20000832, some (.o 2 [[V.int x.2.2.2.2.1.a, V.int x.2.2.2.2.1.b]])), (.r 20001152, some (.o 3 [[V.int x.2.2.2.2.2.1.a, V.int x.2.2.2.2.2.1.b, V.int x.2.2.2.2.2.1.c]]))]) (fun x => Yes (some (x)) o4) ?_ ?_
    rotate_left
    rintro ⟨b1, b2, b3, b4, b5, b6, b7, b8, b9, b10⟩ h
    obtain rfl := h.get
    have h := hK4
    (try (simp only [Sum.elim_inl, Sum.elim_inr] at h))
    refine sw_gh ?_
    refine gh_nameSlot 15 ?_
    simp only [rxb, Nat.reduceAdd, Nat.reduceLeDiff, resSlotP, nameSlotP, Prog.wp, Prog.wp_bind, Prog.bind, Prog.ofO, putSt, lk, lkb, reduceCtorEq, Nat.reduceEqDiff, resV, resV.go, resV.gol, nameAll, nameP, outP, outT, cntT, V.lin, D.lin, Nat.reduceAdd]
    refine gh_sw ?_
    skip)
 | (with_reducible refine here_meet (N0 := 40000000) ?_
    skip
    refine gh_resSlot 15 ?_
    simp only [rxb, Nat.reduceAdd, Nat.reduceLeDiff, resSlotP, nameSlotP, Prog.wp, Prog.wp_bind, Prog.bind, Prog.ofO, putSt, lk, lkb, reduceCtorEq, Nat.reduceEqDiff, resV, resV.go, resV.gol, nameAll, nameP, outP, outT, cntT, V.lin, D.lin, *]
    refine meet_to (_, _, _, _, _, _, _, _, _, _) (by decide) ?_ h ?_
    · exact (by simp [slNL, C.inN, V.inN, V.inNs, V.inNss, inNss_dd, inNs_map_d])
    · simp only [SubL, putSt, lk, lkb, reduceCtorEq, Nat.reduceEqDiff, List.length_set, List.length_replicate]; repeat' (first | apply And.intro | rfl | trivial | (simp only [*]; done)))
 | (with_reducible refine here_join (a := (.seq (.region 18 _ _) _)) (b := (.seq (.region 20 _ _) _)) ?_
    skip
    revert h
    with_reducible refine bind_elimY ?_
    intro o3 h hK3
    unfold spec_l04Heights.a3 at h
    refine sw_join (ι := (List GFunc) × GI3 × (List Int) × (List Bool) × GI2 × GI3 × Int × (List GI2) × Int × Int) 30000000 (fun x : (List GFunc) × GI3 × (List Int) × (List Bool) × GI2 × GI3 × Int × (List GI2) × Int × Int => [(.s 1, some (.v (V.int x.2.2.2.2.2.2.1))), (.s 2, some (.v (.mp 0 1 0 0))), (.s 5, some (.v (.mp 128 3 0 0))), (.s 6, some (.v (.d (.row .bor 2 (Rw GI2.cells x.2.2.2.2.2.2.2.1))))), (.s 7, some (.v (.sl 832 1 0 x.2.2.1.length))), (.s 9, some (.v (.sl 10000640 1 0 x.2.2.2.1.length))), (.s 10, some (.v (V.int x.2.2.2.2.2.2.2.2.1))), (.s 11, some (.v (.mp 20000832 2 0 0))), (.s 12, some (.v (.mp 20001152 3 0 0))), (.s 14, some (.v (V.int x.2.2.2.2.2.2.2.2.2))), (.r 0, some (.o 1 [[.d (.row .bor 3 (Rw (GFunc.cells .bor) x.1))]])), (.r 128, some (.o 3 [[V.int x.2.1.a, V.int x.2.1.b, V.int x.2.1.c]])), (.r 832, some (.o 1 (dd (Rw (cI .i64) x.2.2.1)))), (.r 10000640, some (.o 1 (dd (Rw cB x.2.2.2.1)))), (.r 20000832, some (.o 2 [[V.int x.2.2.2.2.1.a, V.int x.2.2.2.2.1.b]])), (.r 20001152, some (.o 3 [[V.int x.2.2.2.2.2.1.a, V.int x.2.2.2.2.2.1.b, V.int x.2.2.2.2.2.1.c]]))]) (fun x => Yes (some (.inr x)) o3) ?_ ?_
    rotate_left
    rintro ⟨b1, b2, b3, b4, b5, b6, b7, b8, b9, b10⟩ h
    obtain rfl := h.get
    have h := hK3
    (try (simp only [Sum.elim_inl, Sum.elim_inr] at h))
    refine sw_gh ?_
    refine gh_sw ?_
    skip)
 | (with_reducible refine here_meet (N0 := 30000000) ?_
    skip
    refine meet_to (_, _, _, _, _, _, _, _, _, _) (by decide) ?_ h ?_
    · exact (by simp [slNL, C.inN, V.inN, V.inNs, V.inNss, inNss_dd, inNs_map_d])
    · simp only [SubL, putSt, lk, lkb, reduceCtorEq, Nat.reduceEqDiff, List.length_set, List.length_replicate]; repeat' (first | apply And.intro | rfl | trivial | (simp only [*]; done)))
 | (with_reducible refine here_loop (c := (.block 3 _)) ?_
    skip
    revert h
    with_reducible refine bind_elimY ?_
    intro o2 h hK2
    refine sw_loop (ι := Nat × (List GFunc) × GI3 × (List Int) × (List Bool) × Int × (List GI2)) 20000000 (by decide) (fun x : Nat × (List GFunc) × GI3 × (List Int) × (List Bool) × Int × (List GI2) => [(.s 1, some (.v (V.int x.2.2.2.2.2.1))), (.s 2, some (.v (.mp 0 1 0 0))), (.s 5, some (.v (.mp 128 3 0 0))), (.s 6, some (.v (.d (.row .bor 2 (Rw GI2.cells x.2.2.2.2.2.2))))), (.s 7, some (.v (.sl 832 1 0 x.2.2.2.1.length))), (.s 9, some (.v (.sl 10000640 1 0 x.2.2.2.2.1.length))), (.r 0, some (.o 1 [[.d (.row .bor 3 (Rw (GFunc.cells .bor) x.2.1))]])), (.r 128, some (.o 3 [[V.int x.2.2.1.a, V.int x.2.2.1.b, V.int x.2.2.1.c]])), (.r 832, some (.o 1 (dd (Rw (cI .i64) x.2.2.2.1)))), (.r 10000640, some (.o 1 (dd (Rw cB x.2.2.2.2.1))))]) (fun x => x.1) (fun x => Yes (spec_l04Heights.l2 x.1 x.2.1 x.2.2.1 x.2.2.2.1 x.2.2.2.2.1 x.2.2.2.2.2.1 x.2.2.2.2.2.2) o2) (_, _, _, _, _, _, _) ?_ h ?_ ?_
    · exact (by simp [slNL, C.inN, V.inN, V.inNs, V.inNss, inNss_dd, inNs_map_d])
    · simp only [SubL, putSt, lk, lkb, reduceCtorEq, Nat.reduceEqDiff, List.length_set, List.length_replicate]; repeat' (first | apply And.intro | rfl | trivial | (simp only [*]; done))
    rintro ⟨_ | k, a1, a2, a3, a4, a5, a6⟩ h
    · simp only [spec_l04Heights.l2] at h; exact h.none
    simp only [spec_l04Heights.l2] at h
)
 | (with_reducible refine here_next (N0 := 20000000) ?_
    skip
    refine nexts_to (_, _, _, _, _, _, _) (by decide) ?_ (Nat.lt_succ_self _) h ?_
    · exact (by simp [slNL, C.inN, V.inN, V.inNs, V.inNss, inNss_dd, inNs_map_d])
    · simp only [SubL, putSt, lk, lkb, reduceCtorEq, Nat.reduceEqDiff, List.length_set, List.length_replicate]; repeat' (first | apply And.intro | rfl | trivial | (simp only [*]; done)))
 | (with_reducible refine here_loop (c := (.seq (.seq (.region 4 _ _) _) _)) ?_
    skip
    revert h
    with_reducible refine bind_elimY ?_
    intro o1 h hK1
    refine sw_loop (ι := Nat × (List GFunc) × GI3 × (List Int) × Int × (List GI2) × Int) 10000000 (by decide) (fun x : Nat × (List GFunc) × GI3 × (List Int) × Int × (List GI2) × Int => [(.s 1, some (.v (V.int x.2.2.2.2.1))), (.s 2, some (.v (.mp 0 1 0 0))), (.s 5, some (.v (.mp 128 3 0 0))), (.s 6, some (.v (.d (.row .bor 2 (Rw GI2.cells x.2.2.2.2.2.1))))), (.s 7, some (.v (.sl 832 1 0 x.2.2.2.1.length))), (.s 8, some (.v (V.int x.2.2.2.2.2.2))), (.r 0, some (.o 1 [[.d (.row .bor 3 (Rw (GFunc.cells .bor) x.2.1))]])), (.r 128, some (.o 3 [[V.int x.2.2.1.a, V.int x.2.2.1.b, V.int x.2.2.1.c]])), (.r 832, some (.o 1 (dd (Rw (cI .i64) x.2.2.2.1))))]) (fun x => x.1) (fun x => Yes (spec_l04Heights.l1 x.1 x.2.1 x.2.2.1 x.2.2.2.1 x.2.2.2.2.1 x.2.2.2.2.2.1 x.2.2.2.2.2.2) o1) (_, _, _, _, _, _, _) ?_ h ?_ ?_
    · exact (by simp [slNL, C.inN, V.inN, V.inNs, V.inNss, inNss_dd, inNs_map_d])
    · simp only [SubL, putSt, lk, lkb, reduceCtorEq, Nat.reduceEqDiff, List.length_set, List.length_replicate]; repeat' (first | apply And.intro | rfl | trivial | (simp only [*]; done))
    rintro ⟨_ | k, a1, a2, a3, a4, a5, a6⟩ h
    · simp only [spec_l04Heights.l1] at h; exact h.none
    simp only [spec_l04Heights.l1] at h
)
 | (with_reducible refine here_next (N0 := 10000000) ?_
    skip
    refine nexts_to (_, _, _, _, _, _, _) (by decide) ?_ (Nat.lt_succ_self _) h ?_
    · exact (by simp [slNL, C.inN, V.inN, V.inNs, V.inNss, inNss_dd, inNs_map_d])
    · simp only [SubL, putSt, lk, lkb, reduceCtorEq, Nat.reduceEqDiff, List.length_set, List.length_replicate]; repeat' (first | apply And.intro | rfl | trivial | (simp only [*]; done)))
 | with_reducible refine sw_seq ?_
 | with_reducible refine seqQ_ret ?_
 | with_reducible refine seqQ_exit ?_
 | (with_reducible refine gh_nilRow 4 .own 1 ?_ ?_
    · simp only [putSt, lk, lkb, reduceCtorEq, Nat.reduceEqDiff]; done
    skip)
 | ((with_reducible refine wp_ite ?_ ?_)
    all_goals (intro hc; (try (simp only [Bool.not_eq_true, Bool.not_eq_false] at hc)); simp only [hc]))
 | (with_reducible apply regW_skip
    · simp only [dstOk, Nat.reduceLT]
    · rfl
    · simp only [putSt, lk, lkb, reduceCtorEq, Nat.reduceEqDiff]; done)
 | (with_reducible apply regW_yesN
    · simp only [dstOk, Nat.reduceLT]
    · rfl
    · simp only [putSt, lk, lkb, reduceCtorEq, Nat.reduceEqDiff]; done)
 | (with_reducible apply regW_no
    · simp only [dstOk, Nat.reduceLT]
    · rfl
    · simp only [putSt, lk, lkb, reduceCtorEq, Nat.reduceEqDiff, Bool.not_true, Bool.not_false]; done)
 | (with_reducible apply regW_guardN
    · simp only [dstOk, Nat.reduceLT]
    · rfl
    · simp only [putSt, lk, lkb, reduceCtorEq, Nat.reduceEqDiff]; rfl
    all_goals (intro hc; (try (simp only [Bool.not_true, Bool.not_false] at hc))))
 | (with_reducible apply sw_cond
    · simp only [putSt, lk, lkb, reduceCtorEq, Nat.reduceEqDiff]; rfl
    all_goals (intro hc; try (cases hc; done)))
 | ((first
     | ((with_reducible refine gh_ret ?_)
        revert h
        with_reducible refine some_elim ?_
        rintro rfl)
     | (with_reducible refine here_call ?_
        revert h
        with_reducible refine bind_elim ?_
        intro t ht h
        (first
          | (refine call_autoE (c_spec_l04Least ht) ?_ ?_ ?_
             · simp only [hyb, lendAL, lendA, undd.unddR, D.lendL, D.lend, Md.lend, GI2_lend, GFunc_lend, GProgram_lend, GI3_lend, LcIi64_lend, List.take_of_length_le, putSt, lk, lkb, reduceCtorEq, Nat.reduceEqDiff, *]; first | rfl | done
             · first | rfl | (simp only [V.nb, V.nbL, D.nb, D.nbL, Md.nb, nbb, GI2_nb, GFunc_nb, GProgram_nb, GI3_nb, LcIi64_nb]; done)
             simp only [V.namesOf, V.namesOfL, List.foldl_cons, List.foldl_nil, List.nil_append, List.append_nil, List.cons_append])
          | (refine call_dataE (c_spec_Takes ht) ?_ rfl ?_
             · first | rfl | (simp; done))
          | (refine call_dataE (c_spec_Puts ht) ?_ rfl ?_
             · first | rfl | (simp; done))))
     | (with_reducible apply regD_opK
        · simp only [dstOk, Nat.reduceLT]
        · simp only [Nat.reduceAdd]; rfl
        intro k hk)
     | (with_reducible apply regW_opK
        · simp only [dstOk, Nat.reduceLT]
        · simp only [Nat.reduceAdd]; rfl
        intro k hk)
     | skip)
    simp only [RetW, bn, lkb, evb, opC, opP, fetchN, fetchP, fetchAll, fetchO, Prog.bind, Prog.wp, Prog.wp_bind, lk, nameP, nameAll, Value.oneCell', putSt, stepP, putP, reduceCtorEq, V.lin, V.linL, D.lin, isNil, binP, unP, BinOp.isShift, Prog.ofO, Nat.reduceAdd, Nat.reduceMul, Nat.reduceSub, Nat.reduceLT, Nat.reduceLeDiff, Nat.reduceEqDiff, ite_true, ite_false, fieldAddrP, fieldP, indexAddrP, loadP, storeP, boxP, allocP, cellsP, asVal, setSeg, outP, outT, cntT, TyK.field, TyK.agg, zeroRow, V.ren, V.renL, forall_eq_or_imp, forall_const, minmaxP, lenP, lenOf, lenStr, V.asInt, decide_true, decide_false, sliceP, boundP, makeSliceP, convertP, appendP, rowsOfP, ontoP, sizeFits, V.rowSize, TyK.src, resV, resV.go, resV.gol, retP, retOne, retAll, resTo, objsAre, Option.map_eq_map, Function.const_apply, Int.reduceNeg, Int.reduceToNat, ty2, ty3, ty4, ty26, ty28, ty30, ty63, ty65, ty77, ty107, ty117, GFunc.cells, GI2.cells, GI3.cells, GProgram.cells, cI, cB, cS, cL, GI2_e, GFunc_e, GProgram_e, GI3_e, LcIi64_e, buildP, buildSliceP, putParts, structPlaces, chunks, List.replicate, List.flatten_nil, List.flatten_cons, Option.bind_some, bb, GI2_b, GFunc_b, GProgram_b, GI3_b, LcIi64_b, nilEqP, ne_eq, not_false_eq_true, not_true_eq_false, *]
    try (refine hk.use _ _ _ _ ?_; clear hk k))
 | fail)
  all_goals (try rfl)
  all_goals (try (simp; done))
  all_goals (try (simp_all; done))
def spec_l04Func.a1 (k : Nat) (a1 : (List GFunc)) (a2 : GI3) (a3 : Int) (a4 : Int) (a5 : (List GI2)) (a6 : Int) : Option ((GI3) ⊕ ((List GFunc) × GI3 × Int × Int × (List GI2) × Int)) :=
  cond ((decide (a3 < 0))) (some (.inl ((⟨a6, 0, 1⟩ : GI3)))) (cond ((decide (a3 > 4))) (some (.inl ((⟨a6, 0, 1⟩ : GI3)))) (cond ((decide (a4 < a3))) (some (.inl ((⟨a6, 0, 1⟩ : GI3)))) (cond ((decide (a4 > 8))) (some (.inl ((⟨a6, 0, 1⟩ : GI3)))) (cond ((decide (((a5.length : Int)) < 1))) (some (.inl ((⟨a6, 0, 1⟩ : GI3)))) (cond ((decide (((a5.length : Int)) > 60))) (some (.inl ((⟨a6, 0, 1⟩ : GI3)))) (some (.inr (a1, a2, a3, a4, a5, a6))))))))
def spec_l04Func.l2 : Nat → (List GFunc) → GI3 → Int → Int → (List GI2) → Int → Int → Option ((GI3) ⊕ ((List GFunc) × GI3 × Int))
  | 0, _, _, _, _, _, _, _ => none
  | k + 1, a1, a2, a3, a4, a5, a6, a7 => cond ((decide (a7 < ((a5.length : Int))))) ((idx a5 a7).bind fun m2 => (spec_InsRight k ((⟨a1⟩ : GProgram)) a6 m2).bind fun t3 => cond ((!t3)) (some (.inl ((⟨a6, a7, 1⟩ : GI3)))) (spec_l04Func.l2 k a1 a2 a3 a4 a5 a6 ((IntKind.i64.wrap (a7 + 1))))) (some (.inr (a1, a2, a6)))
def spec_l04Func (k : Nat) (p0 : GProgram) (p1 : Int) : Option (GI3) :=
  (idx p0.funcs p1).bind fun m1 => (spec_l04Func.a1 k p0.funcs ((⟨0, 0, 0⟩ : GI3)) m1.args m1.locals m1.code p1).bind fun o1 => Sum.elim (fun o1l => some o1l) (fun o1r => (spec_l04Func.l2 k o1r.1 o1r.2.1 o1r.2.2.1 o1r.2.2.2.1 o1r.2.2.2.2.1 o1r.2.2.2.2.2 0).bind fun o2 => Sum.elim (fun o2l => some o2l) (fun o2r => (spec_l04Heights k ((⟨o2r.1⟩ : GProgram)) o2r.2.2).bind fun t4 => some t4.2) o2) o1
theorem c_spec_l04Func {k : Nat} {p0 : GProgram} {p1 : Int} {r : GI3} (h : spec_l04Func k p0 p1 = some r) : Con Try.prog 108 [.agg [.d (.row .bor 3 (Rw (GFunc.cells .bor) p0.funcs))], V.int p1] [] (.agg [V.int r.a, V.int r.b, V.int r.c]) [] := by
  refine con_of_sw Try.func108 rfl Try.call108 (by simp [Try.ntmps108]) (by simp [V.inNs, V.inN]) (by simp [C.inN, V.inNss, V.inNs, V.inN, inNss_dd]) (by simp [V.inNs, V.inN]) (by simp [C.inN, V.inNss, V.inNs, V.inN, inNss_dd]) rfl ?_
  rw [Try.ntmps108, Try.results108]
  unfold spec_l04Func at h
  replace h := Yes.mk h
  simp only [entryS, entryO, Nat.reduceAdd, List.length_nil, List.length_cons]
  repeat' (first
 | (with_reducible (first | refine sw_reg ?_ | refine sw_ret ?_ | refine sw_skip ?_ | refine sw_block ?_ | refine sw_exit ?_ | refine seqQ_normal ?_ | refine blockQ_normal ?_ | refine blockQ_ret ?_ | refine blockQ_this ?_ | refine blockQ_other (by decide) ?_ | refine regW_nil ?_ | refine sw_draw mixed ?_ | refine retQ_ret ?_ | refine retQ_normal ?_))
 | (with_reducible refine regD_nil ?_
    refine ⟨by kernel_rfl, ?_⟩)
 | (revert h; (first | ((with_reducible refine idx_elim ?_); intro m hm1 hm2 hm3 h; (try (simp only [Int.reduceToNat] at hm3)); (try (revert hm3; (with_reducible apply same_elim); (focus (with_reducible assumption)); rintro rfl)); (try (simp only [List.length_set, List.length_cons, List.length_nil, List.length_replicate, Nat.reduceAdd, Int.cast_ofNat_Int, Nat.zero_add, List.length_append] at hm2))) | (with_reducible refine sidx_elim ?_; intro m hm1 hm3 h) | (with_reducible refine gd_elim ?_; intro hg h; try (have hg2 := hg.2; have hg := hg.1; (try (simp only [Nat.reduceLeDiff] at hg2)); (try (revert hg2; (with_reducible refine toNat_elim hg ?_); intro hg2 hg4)); try (have hg3 := hg2.2; have hg2 := hg2.1; (try (simp only [Nat.reduceLeDiff] at hg3))))) | (with_reducible refine condt_elim ?_ ?_; (focus (with_reducible assumption)); intro h) | (with_reducible refine condf_elim ?_ ?_; (focus (with_reducible assumption)); intro h)))
 | ((first | with_reducible refine seqQ_ret (K := (fun st1 n1 => Gh st1 n1 (NextS _ 20000000 _ _ _ _))) ?_ | with_reducible refine seqQ_exit (K := (fun st1 n1 => Gh st1 n1 (NextS _ 20000000 _ _ _ _))) ?_)
    obtain rfl := h.get
    have h := hK2
    (try (simp only [Sum.elim_inl, Sum.elim_inr] at h)))
 | ((first | with_reducible refine seqQ_ret (K := (fun st1 n1 => Gh st1 n1 (MeetA _ 10000000 _ _))) ?_ | with_reducible refine seqQ_exit (K := (fun st1 n1 => Gh st1 n1 (MeetA _ 10000000 _ _))) ?_)
    obtain rfl := h.get
    have h := hK1
    (try (simp only [Sum.elim_inl, Sum.elim_inr] at h)))
 | (with_reducible refine here_loop (c := (.seq (.seq (.region 5 _ _) _) _)) ?_
    skip
    revert h
    with_reducible refine bind_elimY ?_
    intro o2 h hK2
    refine sw_loop (ι := Nat × (List GFunc) × GI3 × Int × Int × (List GI2) × Int × Int) 20000000 (by decide) (fun x : Nat × (List GFunc) × GI3 × Int × Int × (List GI2) × Int × Int => [(.s 1, some (.v (V.int x.2.2.2.2.2.2.1))), (.s 2, some (.v (.mp 0 1 0 0))), (.s 4, some (.v (.mp 64 3 0 0))), (.s 5, some (.v (.mp 448 3 0 0))), (.s 6, some (.v (V.int x.2.2.2.2.2.2.2))), (.r 0, some (.o 1 [[.d (.row .bor 3 (Rw (GFunc.cells .bor) x.2.1))]])), (.r 64, some (.o 3 [[V.int x.2.2.1.a, V.int x.2.2.1.b, V.int x.2.2.1.c]])), (.r 448, some (.o 3 [[V.int x.2.2.2.1, V.int x.2.2.2.2.1, .d (.row .bor 2 (Rw GI2.cells x.2.2.2.2.2.1))]]))]) (fun x => x.1) (fun x => Yes (spec_l04Func.l2 x.1 x.2.1 x.2.2.1 x.2.2.2.1 x.2.2.2.2.1 x.2.2.2.2.2.1 x.2.2.2.2.2.2.1 x.2.2.2.2.2.2.2) o2) (_, _, _, _, _, _, _, _) ?_ h ?_ ?_
    · exact (by simp [slNL, C.inN, V.inN, V.inNs, V.inNss, inNss_dd, inNs_map_d])
    · simp only [SubL, putSt, lk, lkb, reduceCtorEq, Nat.reduceEqDiff, List.length_set, List.length_replicate]; repeat' (first | apply And.intro | rfl | trivial | (simp only [*]; done))
    rintro ⟨_ | k, a1, a2, a3, a4, a5, a6, a7⟩ h
    · simp only [spec_l04Func.l2] at h; exact h.none
    simp only [spec_l04Func.l2] at h
)
 | (with_reducible refine here_next (N0 := 20000000) ?_
    skip
    refine nexts_to (_, _, _, _, _, _, _, _) (by decide) ?_ (Nat.lt_succ_self _) h ?_
    · exact (by simp [slNL, C.inN, V.inN, V.inNs, V.inNss, inNss_dd, inNs_map_d])
    · simp only [SubL, putSt, lk, lkb, reduceCtorEq, Nat.reduceEqDiff, List.length_set, List.length_replicate]; repeat' (first | apply And.intro | rfl | trivial | (simp only [*]; done)))
 | (with_reducible refine here_join (a := (.seq (.region 2 _ _) _)) (b := (.seq (.seq (.region 4 _ _) _) _)) ?_
    skip
    revert h
    with_reducible refine bind_elimY ?_
    intro o1 h hK1
    unfold spec_l04Func.a1 at h
    refine sw_join (ι := (List GFunc) × GI3 × Int × Int × (List GI2) × Int) 10000000 (fun x : (List GFunc) × GI3 × Int × Int × (List GI2) × Int => [(.s 1, some (.v (V.int x.2.2.2.2.2))), (.s 2, some (.v (.mp 0 1 0 0))), (.s 4, some (.v (.mp 64 3 0 0))), (.s 5, some (.v (.mp 448 3 0 0))), (.r 0, some (.o 1 [[.d (.row .bor 3 (Rw (GFunc.cells .bor) x.1))]])), (.r 64, some (.o 3 [[V.int x.2.1.a, V.int x.2.1.b, V.int x.2.1.c]])), (.r 448, some (.o 3 [[V.int x.2.2.1, V.int x.2.2.2.1, .d (.row .bor 2 (Rw GI2.cells x.2.2.2.2.1))]]))]) (fun x => Yes (some (.inr x)) o1) ?_ ?_
    rotate_left
    rintro ⟨b1, b2, b3, b4, b5, b6⟩ h
    obtain rfl := h.get
    have h := hK1
    (try (simp only [Sum.elim_inl, Sum.elim_inr] at h))
    refine sw_gh ?_
    refine gh_sw ?_
    skip)
 | (with_reducible refine here_meet (N0 := 10000000) ?_
    skip
    refine meet_to (_, _, _, _, _, _) (by decide) ?_ h ?_
    · exact (by simp [slNL, C.inN, V.inN, V.inNs, V.inNss, inNss_dd, inNs_map_d])
    · simp only [SubL, putSt, lk, lkb, reduceCtorEq, Nat.reduceEqDiff, List.length_set, List.length_replicate]; repeat' (first | apply And.intro | rfl | trivial | (simp only [*]; done)))
 | with_reducible refine sw_seq ?_
 | with_reducible refine seqQ_ret ?_
 | with_reducible refine seqQ_exit ?_
 | ((with_reducible refine wp_ite ?_ ?_)
    all_goals (intro hc; (try (simp only [Bool.not_eq_true, Bool.not_eq_false] at hc)); simp only [hc]))
 | (with_reducible apply regW_skip
    · simp only [dstOk, Nat.reduceLT]
    · rfl
    · simp only [putSt, lk, lkb, reduceCtorEq, Nat.reduceEqDiff]; done)
 | (with_reducible apply regW_yesN
    · simp only [dstOk, Nat.reduceLT]
    · rfl
    · simp only [putSt, lk, lkb, reduceCtorEq, Nat.reduceEqDiff]; done)
 | (with_reducible apply regW_no
    · simp only [dstOk, Nat.reduceLT]
    · rfl
    · simp only [putSt, lk, lkb, reduceCtorEq, Nat.reduceEqDiff, Bool.not_true, Bool.not_false]; done)
 | (with_reducible apply regW_guardN
    · simp only [dstOk, Nat.reduceLT]
    · rfl
    · simp only [putSt, lk, lkb, reduceCtorEq, Nat.reduceEqDiff]; rfl
    all_goals (intro hc; (try (simp only [Bool.not_true, Bool.not_false] at hc))))
 | (with_reducible apply sw_cond
    · simp only [putSt, lk, lkb, reduceCtorEq, Nat.reduceEqDiff]; rfl
    all_goals (intro hc; try (cases hc; done)))
 | ((first
     | ((with_reducible refine gh_ret ?_)
        revert h
        with_reducible refine some_elim ?_
        rintro rfl)
     | (with_reducible refine here_call ?_
        revert h
        with_reducible refine bind_elim ?_
        intro t ht h
        (first
          | (refine call_dataE (c_spec_l04Heights ht) ?_ rfl ?_
             · first | rfl | (simp; done))
          | (refine call_dataE (c_spec_InsRight ht) ?_ rfl ?_
             · first | rfl | (simp; done))))
     | (with_reducible apply regD_opK
        · simp only [dstOk, Nat.reduceLT]
        · simp only [Nat.reduceAdd]; rfl
        intro k hk)
     | (with_reducible apply regW_opK
        · simp only [dstOk, Nat.reduceLT]
        · simp only [Nat.reduceAdd]; rfl
        intro k hk)
     | skip)
    simp only [RetW, bn, lkb, evb, opC, opP, fetchN, fetchP, fetchAll, fetchO, Prog.bind, Prog.wp, Prog.wp_bind, lk, nameP, nameAll, Value.oneCell', putSt, stepP, putP, reduceCtorEq, V.lin, V.linL, D.lin, isNil, binP, unP, BinOp.isShift, Prog.ofO, Nat.reduceAdd, Nat.reduceMul, Nat.reduceSub, Nat.reduceLT, Nat.reduceLeDiff, Nat.reduceEqDiff, ite_true, ite_false, fieldAddrP, fieldP, indexAddrP, loadP, storeP, boxP, allocP, cellsP, asVal, setSeg, outP, outT, cntT, TyK.field, TyK.agg, zeroRow, V.ren, V.renL, forall_eq_or_imp, forall_const, minmaxP, lenP, lenOf, lenStr, V.asInt, decide_true, decide_false, sliceP, boundP, makeSliceP, convertP, appendP, rowsOfP, ontoP, sizeFits, V.rowSize, TyK.src, resV, resV.go, resV.gol, retP, retOne, retAll, resTo, objsAre, Option.map_eq_map, Function.const_apply, Int.reduceNeg, Int.reduceToNat, ty2, ty3, ty4, ty28, ty30, ty63, ty65, ty77, ty107, GFunc.cells, GI2.cells, GI3.cells, GProgram.cells, cI, cB, cS, cL, GI2_e, GFunc_e, GProgram_e, GI3_e, buildP, buildSliceP, putParts, structPlaces, chunks, List.replicate, List.flatten_nil, List.flatten_cons, Option.bind_some, *]
    try (refine hk.use _ _ _ _ ?_; clear hk k))
 | fail)
  all_goals (try rfl)
  all_goals (try (simp; done))
  all_goals (try (simp_all; done))
def spec_Verify.a1 (k : Nat) (a1 : (List GFunc)) (a2 : GI3) : Option ((GI3) ⊕ ((List GFunc) × GI3)) :=
  cond ((decide (((a1.length : Int)) < 1))) (some (.inl ((⟨0, 0, 1⟩ : GI3)))) (cond ((decide (((a1.length : Int)) > 6))) (some (.inl ((⟨0, 0, 1⟩ : GI3)))) (some (.inr (a1, a2))))
def spec_Verify.l2 : Nat → (List GFunc) → GI3 → Int → Option ((GI3) ⊕ (GI3))
  | 0, _, _, _ => none
  | k + 1, a1, a2, a3 => cond ((decide (a3 < ((a1.length : Int))))) ((spec_l04Func k ((⟨a1⟩ : GProgram)) a3).bind fun t1 => cond ((t1.c != 0)) (some (.inl (t1))) (spec_Verify.l2 k a1 a2 ((IntKind.i64.wrap (a3 + 1))))) (some (.inr (a2)))
def spec_Verify (k : Nat) (p0 : GProgram) : Option (GI3) :=
  (spec_Verify.a1 k p0.funcs ((⟨0, 0, 0⟩ : GI3))).bind fun o1 => Sum.elim (fun o1l => some o1l) (fun o1r => (spec_Verify.l2 k o1r.1 o1r.2 0).bind fun o2 => Sum.elim (fun o2l => some o2l) (fun o2r => some ((⟨0, 0, 0⟩ : GI3))) o2) o1
theorem c_spec_Verify {k : Nat} {p0 : GProgram} {r : GI3} (h : spec_Verify k p0 = some r) : Con Try.prog 91 [.agg [.d (.row .bor 3 (Rw (GFunc.cells .bor) p0.funcs))]] [] (.agg [V.int r.a, V.int r.b, V.int r.c]) [] := by
  refine con_of_sw Try.func91 rfl Try.call91 (by simp [Try.ntmps91]) (by simp [V.inNs, V.inN]) (by simp [C.inN, V.inNss, V.inNs, V.inN, inNss_dd]) (by simp [V.inNs, V.inN]) (by simp [C.inN, V.inNss, V.inNs, V.inN, inNss_dd]) rfl ?_
  rw [Try.ntmps91, Try.results91]
  unfold spec_Verify at h
  replace h := Yes.mk h
  simp only [entryS, entryO, Nat.reduceAdd, List.length_nil, List.length_cons]
  repeat' (first
 | (with_reducible (first | refine sw_reg ?_ | refine sw_ret ?_ | refine sw_skip ?_ | refine sw_block ?_ | refine sw_exit ?_ | refine seqQ_normal ?_ | refine blockQ_normal ?_ | refine blockQ_ret ?_ | refine blockQ_this ?_ | refine blockQ_other (by decide) ?_ | refine regW_nil ?_ | refine sw_draw mixed ?_ | refine retQ_ret ?_ | refine retQ_normal ?_))
 | (with_reducible refine regD_nil ?_
    refine ⟨by kernel_rfl, ?_⟩)
 | (revert h; (first | ((with_reducible refine idx_elim ?_); intro m hm1 hm2 hm3 h; (try (simp only [Int.reduceToNat] at hm3)); (try (revert hm3; (with_reducible apply same_elim); (focus (with_reducible assumption)); rintro rfl)); (try (simp only [List.length_set, List.length_cons, List.length_nil, List.length_replicate, Nat.reduceAdd, Int.cast_ofNat_Int, Nat.zero_add, List.length_append] at hm2))) | (with_reducible refine sidx_elim ?_; intro m hm1 hm3 h) | (with_reducible refine gd_elim ?_; intro hg h; try (have hg2 := hg.2; have hg := hg.1; (try (simp only [Nat.reduceLeDiff] at hg2)); (try (revert hg2; (with_reducible refine toNat_elim hg ?_); intro hg2 hg4)); try (have hg3 := hg2.2; have hg2 := hg2.1; (try (simp only [Nat.reduceLeDiff] at hg3))))) | (with_reducible refine condt_elim ?_ ?_; (focus (with_reducible assumption)); intro h) | (with_reducible refine condf_elim ?_ ?_; (focus (with_reducible assumption)); intro h)))
 | ((first | with_reducible refine seqQ_ret (K := (fun st1 n1 => Gh st1 n1 (NextS _ 20000000 _ _ _ _))) ?_ | with_reducible refine seqQ_exit (K := (fun st1 n1 => Gh st1 n1 (NextS _ 20000000 _ _ _ _))) ?_)
    obtain rfl := h.get
    have h := hK2
    (try (simp only [Sum.elim_inl, Sum.elim_inr] at h)))
 | ((first | with_reducible refine seqQ_ret (K := (fun st1 n1 => Gh st1 n1 (MeetA _ 10000000 _ _))) ?_ | with_reducible refine seqQ_exit (K := (fun st1 n1 => Gh st1 n1 (MeetA _ 10000000 _ _))) ?_)
    obtain rfl := h.get
    have h := hK1
    (try (simp only [Sum.elim_inl, Sum.elim_inr] at h)))
 | (with_reducible refine here_loop (c := (.seq (.seq (.region 4 _ _) _) _)) ?_
    skip
    revert h
    with_reducible refine bind_elimY ?_
    intro o2 h hK2
    refine sw_loop (ι := Nat × (List GFunc) × GI3 × Int) 20000000 (by decide) (fun x : Nat × (List GFunc) × GI3 × Int => [(.s 1, some (.v (.mp 0 1 0 0))), (.s 2, some (.v (.mp 64 3 0 0))), (.s 3, some (.v (V.int x.2.2.2))), (.r 0, some (.o 1 [[.d (.row .bor 3 (Rw (GFunc.cells .bor) x.2.1))]])), (.r 64, some (.o 3 [[V.int x.2.2.1.a, V.int x.2.2.1.b, V.int x.2.2.1.c]]))]) (fun x => x.1) (fun x => Yes (spec_Verify.l2 x.1 x.2.1 x.2.2.1 x.2.2.2) o2) (_, _, _, _) ?_ h ?_ ?_
    · exact (by simp [slNL, C.inN, V.inN, V.inNs, V.inNss, inNss_dd, inNs_map_d])
    · simp only [SubL, putSt, lk, lkb, reduceCtorEq, Nat.reduceEqDiff, List.length_set, List.length_replicate]; repeat' (first | apply And.intro | rfl | trivial | (simp only [*]; done))
    rintro ⟨_ | k, a1, a2, a3⟩ h
    · simp only [spec_Verify.l2] at h; exact h.none
    simp only [spec_Verify.l2] at h
)
 | (with_reducible refine here_next (N0 := 20000000) ?_
    skip
    refine nexts_to (_, _, _, _) (by decide) ?_ (Nat.lt_succ_self _) h ?_
    · exact (by simp [slNL, C.inN, V.inN, V.inNs, V.inNss, inNss_dd, inNs_map_d])
    · simp only [SubL, putSt, lk, lkb, reduceCtorEq, Nat.reduceEqDiff, List.length_set, List.length_replicate]; repeat' (first | apply And.intro | rfl | trivial | (simp only [*]; done)))
 | (with_reducible refine here_join (a := (.seq (.region 1 _ _) _)) (b := (.seq (.seq (.region 3 _ _) _) _)) ?_
    skip
    revert h
    with_reducible refine bind_elimY ?_
    intro o1 h hK1
    unfold spec_Verify.a1 at h
    refine sw_join (ι := (List GFunc) × GI3) 10000000 (fun x : (List GFunc) × GI3 => [(.s 1, some (.v (.mp 0 1 0 0))), (.s 2, some (.v (.mp 64 3 0 0))), (.r 0, some (.o 1 [[.d (.row .bor 3 (Rw (GFunc.cells .bor) x.1))]])), (.r 64, some (.o 3 [[V.int x.2.a, V.int x.2.b, V.int x.2.c]]))]) (fun x => Yes (some (.inr x)) o1) ?_ ?_
    rotate_left
    rintro ⟨b1, b2⟩ h
    obtain rfl := h.get
    have h := hK1
    (try (simp only [Sum.elim_inl, Sum.elim_inr] at h))
    refine sw_gh ?_
    refine gh_sw ?_
    skip)
 | (with_reducible refine here_meet (N0 := 10000000) ?_
    skip
    refine meet_to (_, _) (by decide) ?_ h ?_
    · exact (by simp [slNL, C.inN, V.inN, V.inNs, V.inNss, inNss_dd, inNs_map_d])
    · simp only [SubL, putSt, lk, lkb, reduceCtorEq, Nat.reduceEqDiff, List.length_set, List.length_replicate]; repeat' (first | apply And.intro | rfl | trivial | (simp only [*]; done)))
 | with_reducible refine sw_seq ?_
 | with_reducible refine seqQ_ret ?_
 | with_reducible refine seqQ_exit ?_
 | ((with_reducible refine wp_ite ?_ ?_)
    all_goals (intro hc; (try (simp only [Bool.not_eq_true, Bool.not_eq_false] at hc)); simp only [hc]))
 | (with_reducible apply regW_skip
    · simp only [dstOk, Nat.reduceLT]
    · rfl
    · simp only [putSt, lk, lkb, reduceCtorEq, Nat.reduceEqDiff]; done)
 | (with_reducible apply regW_yesN
    · simp only [dstOk, Nat.reduceLT]
    · rfl
    · simp only [putSt, lk, lkb, reduceCtorEq, Nat.reduceEqDiff]; done)
 | (with_reducible apply regW_no
    · simp only [dstOk, Nat.reduceLT]
    · rfl
    · simp only [putSt, lk, lkb, reduceCtorEq, Nat.reduceEqDiff, Bool.not_true, Bool.not_false]; done)
 | (with_reducible apply regW_guardN
    · simp only [dstOk, Nat.reduceLT]
    · rfl
    · simp only [putSt, lk, lkb, reduceCtorEq, Nat.reduceEqDiff]; rfl
    all_goals (intro hc; (try (simp only [Bool.not_true, Bool.not_false] at hc))))
 | (with_reducible apply sw_cond
    · simp only [putSt, lk, lkb, reduceCtorEq, Nat.reduceEqDiff]; rfl
    all_goals (intro hc; try (cases hc; done)))
 | ((first
     | ((with_reducible refine gh_ret ?_)
        revert h
        with_reducible refine some_elim ?_
        rintro rfl)
     | (with_reducible refine here_call ?_
        revert h
        with_reducible refine bind_elim ?_
        intro t ht h
        (first
          | (refine call_dataE (c_spec_l04Func ht) ?_ rfl ?_
             · first | rfl | (simp; done))))
     | (with_reducible apply regD_opK
        · simp only [dstOk, Nat.reduceLT]
        · simp only [Nat.reduceAdd]; rfl
        intro k hk)
     | (with_reducible apply regW_opK
        · simp only [dstOk, Nat.reduceLT]
        · simp only [Nat.reduceAdd]; rfl
        intro k hk)
     | skip)
    simp only [RetW, bn, lkb, evb, opC, opP, fetchN, fetchP, fetchAll, fetchO, Prog.bind, Prog.wp, Prog.wp_bind, lk, nameP, nameAll, Value.oneCell', putSt, stepP, putP, reduceCtorEq, V.lin, V.linL, D.lin, isNil, binP, unP, BinOp.isShift, Prog.ofO, Nat.reduceAdd, Nat.reduceMul, Nat.reduceSub, Nat.reduceLT, Nat.reduceLeDiff, Nat.reduceEqDiff, ite_true, ite_false, fieldAddrP, fieldP, indexAddrP, loadP, storeP, boxP, allocP, cellsP, asVal, setSeg, outP, outT, cntT, TyK.field, TyK.agg, zeroRow, V.ren, V.renL, forall_eq_or_imp, forall_const, minmaxP, lenP, lenOf, lenStr, V.asInt, decide_true, decide_false, sliceP, boundP, makeSliceP, convertP, appendP, rowsOfP, ontoP, sizeFits, V.rowSize, TyK.src, resV, resV.go, resV.gol, retP, retOne, retAll, resTo, objsAre, Option.map_eq_map, Function.const_apply, Int.reduceNeg, Int.reduceToNat, ty2, ty3, ty28, ty30, ty63, ty65, ty77, ty107, GFunc.cells, GI2.cells, GI3.cells, GProgram.cells, cI, cB, cS, cL, GI2_e, GFunc_e, GProgram_e, GI3_e, buildP, buildSliceP, putParts, structPlaces, chunks, List.replicate, List.flatten_nil, List.flatten_cons, Option.bind_some, *]
    try (refine hk.use _ _ _ _ ?_; clear hk k))
 | fail)
  all_goals (try rfl)
  all_goals (try (simp; done))
  all_goals (try (simp_all; done))
def spec_l04Right (k : Nat) (p0 : GProgram) : Option (Bool) :=
  (spec_Verify k p0).bind fun t1 => some ((t1.c == 0))
theorem c_spec_l04Right {k : Nat} {p0 : GProgram} {r : Bool} (h : spec_l04Right k p0 = some r) : Con Try.prog 66 [.agg [.d (.row .bor 3 (Rw (GFunc.cells .bor) p0.funcs))]] [] (V.bool r) [] := by
  refine con_of_sw Try.func66 rfl Try.call66 (by simp [Try.ntmps66]) (by simp [V.inNs, V.inN]) (by simp [C.inN, V.inNss, V.inNs, V.inN, inNss_dd]) (by simp [V.inNs, V.inN]) (by simp [C.inN, V.inNss, V.inNs, V.inN, inNss_dd]) rfl ?_
  rw [Try.ntmps66, Try.results66]
  unfold spec_l04Right at h
  replace h := Yes.mk h
  simp only [entryS, entryO, Nat.reduceAdd, List.length_nil, List.length_cons]
  repeat' (first
 | (with_reducible (first | refine sw_reg ?_ | refine sw_ret ?_ | refine sw_skip ?_ | refine sw_block ?_ | refine sw_exit ?_ | refine seqQ_normal ?_ | refine blockQ_normal ?_ | refine blockQ_ret ?_ | refine blockQ_this ?_ | refine blockQ_other (by decide) ?_ | refine regW_nil ?_ | refine sw_draw mixed ?_ | refine retQ_ret ?_ | refine retQ_normal ?_))
 | (with_reducible refine regD_nil ?_
    refine ⟨by kernel_rfl, ?_⟩)
 | (revert h; (first | ((with_reducible refine idx_elim ?_); intro m hm1 hm2 hm3 h; (try (simp only [Int.reduceToNat] at hm3)); (try (revert hm3; (with_reducible apply same_elim); (focus (with_reducible assumption)); rintro rfl)); (try (simp only [List.length_set, List.length_cons, List.length_nil, List.length_replicate, Nat.reduceAdd, Int.cast_ofNat_Int, Nat.zero_add, List.length_append] at hm2))) | (with_reducible refine sidx_elim ?_; intro m hm1 hm3 h) | (with_reducible refine gd_elim ?_; intro hg h; try (have hg2 := hg.2; have hg := hg.1; (try (simp only [Nat.reduceLeDiff] at hg2)); (try (revert hg2; (with_reducible refine toNat_elim hg ?_); intro hg2 hg4)); try (have hg3 := hg2.2; have hg2 := hg2.1; (try (simp only [Nat.reduceLeDiff] at hg3))))) | (with_reducible refine condt_elim ?_ ?_; (focus (with_reducible assumption)); intro h) | (with_reducible refine condf_elim ?_ ?_; (focus (with_reducible assumption)); intro h)))
 | with_reducible refine sw_seq ?_
 | with_reducible refine seqQ_ret ?_
 | with_reducible refine seqQ_exit ?_
 | ((with_reducible refine wp_ite ?_ ?_)
    all_goals (intro hc; (try (simp only [Bool.not_eq_true, Bool.not_eq_false] at hc)); simp only [hc]))
 | (with_reducible apply regW_skip
    · simp only [dstOk, Nat.reduceLT]
    · rfl
    · simp only [putSt, lk, lkb, reduceCtorEq, Nat.reduceEqDiff]; done)
 | (with_reducible apply regW_yesN
    · simp only [dstOk, Nat.reduceLT]
    · rfl
    · simp only [putSt, lk, lkb, reduceCtorEq, Nat.reduceEqDiff]; done)
 | (with_reducible apply regW_no
    · simp only [dstOk, Nat.reduceLT]
    · rfl
    · simp only [putSt, lk, lkb, reduceCtorEq, Nat.reduceEqDiff, Bool.not_true, Bool.not_false]; done)
 | (with_reducible apply regW_guardN
    · simp only [dstOk, Nat.reduceLT]
    · rfl
    · simp only [putSt, lk, lkb, reduceCtorEq, Nat.reduceEqDiff]; rfl
    all_goals (intro hc; (try (simp only [Bool.not_true, Bool.not_false] at hc))))
 | (with_reducible apply sw_cond
    · simp only [putSt, lk, lkb, reduceCtorEq, Nat.reduceEqDiff]; rfl
    all_goals (intro hc; try (cases hc; done)))
 | ((first
     | ((with_reducible refine gh_ret ?_)
        revert h
        with_reducible refine some_elim ?_
        rintro rfl)
     | (with_reducible refine here_call ?_
        revert h
        with_reducible refine bind_elim ?_
        intro t ht h
        (first
          | (refine call_dataE (c_spec_Verify ht) ?_ rfl ?_
             · first | rfl | (simp; done))))
     | (with_reducible apply regD_opK
        · simp only [dstOk, Nat.reduceLT]
        · simp only [Nat.reduceAdd]; rfl
        intro k hk)
     | (with_reducible apply regW_opK
        · simp only [dstOk, Nat.reduceLT]
        · simp only [Nat.reduceAdd]; rfl
        intro k hk)
     | skip)
    simp only [RetW, bn, lkb, evb, opC, opP, fetchN, fetchP, fetchAll, fetchO, Prog.bind, Prog.wp, Prog.wp_bind, lk, nameP, nameAll, Value.oneCell', putSt, stepP, putP, reduceCtorEq, V.lin, V.linL, D.lin, isNil, binP, unP, BinOp.isShift, Prog.ofO, Nat.reduceAdd, Nat.reduceMul, Nat.reduceSub, Nat.reduceLT, Nat.reduceLeDiff, Nat.reduceEqDiff, ite_true, ite_false, fieldAddrP, fieldP, indexAddrP, loadP, storeP, boxP, allocP, cellsP, asVal, setSeg, outP, outT, cntT, TyK.field, TyK.agg, zeroRow, V.ren, V.renL, forall_eq_or_imp, forall_const, minmaxP, lenP, lenOf, lenStr, V.asInt, decide_true, decide_false, sliceP, boundP, makeSliceP, convertP, appendP, rowsOfP, ontoP, sizeFits, V.rowSize, TyK.src, resV, resV.go, resV.gol, retP, retOne, retAll, resTo, objsAre, Option.map_eq_map, Function.const_apply, Int.reduceNeg, Int.reduceToNat, ty2, ty4, ty28, ty30, ty63, ty65, ty77, ty107, GFunc.cells, GI2.cells, GI3.cells, GProgram.cells, cI, cB, cS, cL, GI2_e, GFunc_e, GProgram_e, GI3_e, *]
    try (refine hk.use _ _ _ _ ?_; clear hk k))
 | fail)
  all_goals (try rfl)
  all_goals (try (simp; done))
  all_goals (try (simp_all; done))
def spec_l04Is (k : Nat) (p0 : GProgram) (p1 : Int) : Option (Bool) :=
  (spec_l04Right k p0).bind fun t1 => cond t1 (cond ((decide (p1 ≥ 0))) (some ((decide (p1 < ((p0.funcs.length : Int)))))) (some false)) (some false)
theorem c_spec_l04Is {k : Nat} {p0 : GProgram} {p1 : Int} {r : Bool} (h : spec_l04Is k p0 p1 = some r) : Con Try.prog 36 [.agg [.d (.row .bor 3 (Rw (GFunc.cells .bor) p0.funcs))], V.int p1] [] (V.bool r) [] := by
  refine con_of_sw Try.func36 rfl Try.call36 (by simp [Try.ntmps36]) (by simp [V.inNs, V.inN]) (by simp [C.inN, V.inNss, V.inNs, V.inN, inNss_dd]) (by simp [V.inNs, V.inN]) (by simp [C.inN, V.inNss, V.inNs, V.inN, inNss_dd]) rfl ?_
  rw [Try.ntmps36, Try.results36]
  unfold spec_l04Is at h
  replace h := Yes.mk h
  simp only [entryS, entryO, Nat.reduceAdd, List.length_nil, List.length_cons]
  repeat' (first
 | (with_reducible (first | refine sw_reg ?_ | refine sw_ret ?_ | refine sw_skip ?_ | refine sw_block ?_ | refine sw_exit ?_ | refine seqQ_normal ?_ | refine blockQ_normal ?_ | refine blockQ_ret ?_ | refine blockQ_this ?_ | refine blockQ_other (by decide) ?_ | refine regW_nil ?_ | refine sw_draw mixed ?_ | refine retQ_ret ?_ | refine retQ_normal ?_))
 | (with_reducible refine regD_nil ?_
    refine ⟨by kernel_rfl, ?_⟩)
 | (revert h; (first | ((with_reducible refine idx_elim ?_); intro m hm1 hm2 hm3 h; (try (simp only [Int.reduceToNat] at hm3)); (try (revert hm3; (with_reducible apply same_elim); (focus (with_reducible assumption)); rintro rfl)); (try (simp only [List.length_set, List.length_cons, List.length_nil, List.length_replicate, Nat.reduceAdd, Int.cast_ofNat_Int, Nat.zero_add, List.length_append] at hm2))) | (with_reducible refine sidx_elim ?_; intro m hm1 hm3 h) | (with_reducible refine gd_elim ?_; intro hg h; try (have hg2 := hg.2; have hg := hg.1; (try (simp only [Nat.reduceLeDiff] at hg2)); (try (revert hg2; (with_reducible refine toNat_elim hg ?_); intro hg2 hg4)); try (have hg3 := hg2.2; have hg2 := hg2.1; (try (simp only [Nat.reduceLeDiff] at hg3))))) | (with_reducible refine condt_elim ?_ ?_; (focus (with_reducible assumption)); intro h) | (with_reducible refine condf_elim ?_ ?_; (focus (with_reducible assumption)); intro h)))
 | with_reducible refine sw_seq ?_
 | with_reducible refine seqQ_ret ?_
 | with_reducible refine seqQ_exit ?_
 | ((with_reducible refine wp_ite ?_ ?_)
    all_goals (intro hc; (try (simp only [Bool.not_eq_true, Bool.not_eq_false] at hc)); simp only [hc]))
 | (with_reducible apply regW_skip
    · simp only [dstOk, Nat.reduceLT]
    · rfl
    · simp only [putSt, lk, lkb, reduceCtorEq, Nat.reduceEqDiff]; done)
 | (with_reducible apply regW_yesN
    · simp only [dstOk, Nat.reduceLT]
    · rfl
    · simp only [putSt, lk, lkb, reduceCtorEq, Nat.reduceEqDiff]; done)
 | (with_reducible apply regW_no
    · simp only [dstOk, Nat.reduceLT]
    · rfl
    · simp only [putSt, lk, lkb, reduceCtorEq, Nat.reduceEqDiff, Bool.not_true, Bool.not_false]; done)
 | (with_reducible apply regW_guardN
    · simp only [dstOk, Nat.reduceLT]
    · rfl
    · simp only [putSt, lk, lkb, reduceCtorEq, Nat.reduceEqDiff]; rfl
    all_goals (intro hc; (try (simp only [Bool.not_true, Bool.not_false] at hc))))
 | (with_reducible apply sw_cond
    · simp only [putSt, lk, lkb, reduceCtorEq, Nat.reduceEqDiff]; rfl
    all_goals (intro hc; try (cases hc; done)))
 | ((first
     | ((with_reducible refine gh_ret ?_)
        revert h
        with_reducible refine some_elim ?_
        rintro rfl)
     | (with_reducible refine here_call ?_
        revert h
        with_reducible refine bind_elim ?_
        intro t ht h
        (first
          | (refine call_dataE (c_spec_l04Right ht) ?_ rfl ?_
             · first | rfl | (simp; done))))
     | (with_reducible apply regD_opK
        · simp only [dstOk, Nat.reduceLT]
        · simp only [Nat.reduceAdd]; rfl
        intro k hk)
     | (with_reducible apply regW_opK
        · simp only [dstOk, Nat.reduceLT]
        · simp only [Nat.reduceAdd]; rfl
        intro k hk)
     | skip)
    simp only [RetW, bn, lkb, evb, opC, opP, fetchN, fetchP, fetchAll, fetchO, Prog.bind, Prog.wp, Prog.wp_bind, lk, nameP, nameAll, Value.oneCell', putSt, stepP, putP, reduceCtorEq, V.lin, V.linL, D.lin, isNil, binP, unP, BinOp.isShift, Prog.ofO, Nat.reduceAdd, Nat.reduceMul, Nat.reduceSub, Nat.reduceLT, Nat.reduceLeDiff, Nat.reduceEqDiff, ite_true, ite_false, fieldAddrP, fieldP, indexAddrP, loadP, storeP, boxP, allocP, cellsP, asVal, setSeg, outP, outT, cntT, TyK.field, TyK.agg, zeroRow, V.ren, V.renL, forall_eq_or_imp, forall_const, minmaxP, lenP, lenOf, lenStr, V.asInt, decide_true, decide_false, sliceP, boundP, makeSliceP, convertP, appendP, rowsOfP, ontoP, sizeFits, V.rowSize, TyK.src, resV, resV.go, resV.gol, retP, retOne, retAll, resTo, objsAre, Option.map_eq_map, Function.const_apply, Int.reduceNeg, Int.reduceToNat, ty2, ty4, ty28, ty30, ty63, ty65, ty107, GFunc.cells, GI2.cells, GProgram.cells, cI, cB, cS, cL, GI2_e, GFunc_e, GProgram_e, *]
    try (refine hk.use _ _ _ _ ?_; clear hk k))
 | fail)
  all_goals (try rfl)
  all_goals (try (simp; done))
  all_goals (try (simp_all; done))
def spec_l08Next.a1 (k : Nat) (a1 : GI2) (a2 : (List Int)) (a3 : Int) : Option (GI2 × (List Int)) :=
  cond ((a1.a != 30)) (cond ((a1.a != 33)) (gd ((a2.length + 1) * 8 ≤ 35184372088832 ∧ a2.length + 1 ≤ 35184372088832) (some (a1, (a2 ++ [(IntKind.i64.wrap (a3 + 1))])))) (some (a1, a2))) (some (a1, a2))
def spec_l08Next (k : Nat) (p0 : GI2) (p1 : Int) : Option ((List Int)) :=
  (spec_l08Next.a1 k p0 [] p1).bind fun o1 => cond ((o1.1.a == 30)) (gd ((o1.2.length + 1) * 8 ≤ 35184372088832 ∧ o1.2.length + 1 ≤ 35184372088832) (some ((o1.2 ++ [o1.1.b])))) (cond ((o1.1.a == 31)) (gd ((o1.2.length + 1) * 8 ≤ 35184372088832 ∧ o1.2.length + 1 ≤ 35184372088832) (some ((o1.2 ++ [o1.1.b])))) (some o1.2))
theorem c_spec_l08Next {k : Nat} {p0 : GI2} {p1 : Int} {r : (List Int)} (h : spec_l08Next k p0 p1 = some r) : Con Try.prog 67 [.agg [V.int p0.a, V.int p0.b], V.int p1] [] (.d (.row .own 1 (Rw (cI .i64) r))) [] := by
  refine con_of_sw Try.func67 rfl Try.call67 (by simp [Try.ntmps67]) (by simp [V.inNs, V.inN]) (by simp [C.inN, V.inNss, V.inNs, V.inN, inNss_dd]) (by simp [V.inNs, V.inN]) (by simp [C.inN, V.inNss, V.inNs, V.inN, inNss_dd]) rfl ?_
  rw [Try.ntmps67, Try.results67]
  unfold spec_l08Next at h
  replace h := Yes.mk h
  simp only [entryS, entryO, Nat.reduceAdd, List.length_nil, List.length_cons]
  repeat' (first
 | (with_reducible (first | refine sw_reg ?_ | refine sw_ret ?_ | refine sw_skip ?_ | refine sw_block ?_ | refine sw_exit ?_ | refine seqQ_normal ?_ | refine blockQ_normal ?_ | refine blockQ_ret ?_ | refine blockQ_this ?_ | refine blockQ_other (by decide) ?_ | refine regW_nil ?_ | refine sw_draw mixed ?_ | refine retQ_ret ?_ | refine retQ_normal ?_))
 | (with_reducible refine regD_nil ?_
    refine ⟨by kernel_rfl, ?_⟩)
 | (revert h; (first | ((with_reducible refine idx_elim ?_); intro m hm1 hm2 hm3 h; (try (simp only [Int.reduceToNat] at hm3)); (try (revert hm3; (with_reducible apply same_elim); (focus (with_reducible assumption)); rintro rfl)); (try (simp only [List.length_set, List.length_cons, List.length_nil, List.length_replicate, Nat.reduceAdd, Int.cast_ofNat_Int, Nat.zero_add, List.length_append] at hm2))) | (with_reducible refine sidx_elim ?_; intro m hm1 hm3 h) | (with_reducible refine gd_elim ?_; intro hg h; try (have hg2 := hg.2; have hg := hg.1; (try (simp only [Nat.reduceLeDiff] at hg2)); (try (revert hg2; (with_reducible refine toNat_elim hg ?_); intro hg2 hg4)); try (have hg3 := hg2.2; have hg2 := hg2.1; (try (simp only [Nat.reduceLeDiff] at hg3))))) | (with_reducible refine condt_elim ?_ ?_; (focus (with_reducible assumption)); intro h) | (with_reducible refine condf_elim ?_ ?_; (focus (with_reducible assumption)); intro h)))
 | ((first | with_reducible refine seqQ_ret (K := (fun st1 n1 => Gh st1 n1 (MeetA _ 10000000 _ _))) ?_ | with_reducible refine seqQ_exit (K := (fun st1 n1 => Gh st1 n1 (MeetA _ 10000000 _ _))) ?_)
    obtain rfl := h.get
    have h := hK1
    (try (simp only [Sum.elim_inl, Sum.elim_inr] at h)))
 | (with_reducible refine here_join (a := (.seq (.region 2 _ _) _)) (b := (.seq (.seq (.region 4 _ _) _) _)) ?_
    skip
    revert h
    with_reducible refine bind_elimY ?_
    intro o1 h hK1
    unfold spec_l08Next.a1 at h
    refine sw_join (ι := GI2 × (List Int)) 10000000 (fun x : GI2 × (List Int) => [(.s 2, some (.v (.mp 0 2 0 0))), (.s 5, some (.v (.d (.row .own 1 (Rw (cI .i64) x.2))))), (.r 0, some (.o 2 [[V.int x.1.a, V.int x.1.b]]))]) (fun x => Yes (some (x)) o1) ?_ ?_
    rotate_left
    rintro ⟨b1, b2⟩ h
    obtain rfl := h.get
    have h := hK1
    (try (simp only [Sum.elim_inl, Sum.elim_inr] at h))
    refine sw_gh ?_
    refine gh_nameSlot 5 ?_
    simp only [rxb, Nat.reduceAdd, Nat.reduceLeDiff, resSlotP, nameSlotP, Prog.wp, Prog.wp_bind, Prog.bind, Prog.ofO, putSt, lk, lkb, reduceCtorEq, Nat.reduceEqDiff, resV, resV.go, resV.gol, nameAll, nameP, outP, outT, cntT, V.lin, D.lin, Nat.reduceAdd]
    refine gh_sw ?_
    skip)
 | (with_reducible refine here_meet (N0 := 10000000) ?_
    skip
    refine gh_resSlot 5 ?_
    simp only [rxb, Nat.reduceAdd, Nat.reduceLeDiff, resSlotP, nameSlotP, Prog.wp, Prog.wp_bind, Prog.bind, Prog.ofO, putSt, lk, lkb, reduceCtorEq, Nat.reduceEqDiff, resV, resV.go, resV.gol, nameAll, nameP, outP, outT, cntT, V.lin, D.lin, *]
    refine meet_to (_, _) (by decide) ?_ h ?_
    · exact (by simp [slNL, C.inN, V.inN, V.inNs, V.inNss, inNss_dd, inNs_map_d])
    · simp only [SubL, putSt, lk, lkb, reduceCtorEq, Nat.reduceEqDiff, List.length_set, List.length_replicate]; repeat' (first | apply And.intro | rfl | trivial | (simp only [*]; done)))
 | with_reducible refine sw_seq ?_
 | with_reducible refine seqQ_ret ?_
 | with_reducible refine seqQ_exit ?_
 | (with_reducible refine gh_nilRow 4 .own 1 ?_ ?_
    · simp only [putSt, lk, lkb, reduceCtorEq, Nat.reduceEqDiff]; done
    skip)
 | ((with_reducible refine wp_ite ?_ ?_)
    all_goals (intro hc; (try (simp only [Bool.not_eq_true, Bool.not_eq_false] at hc)); simp only [hc]))
 | (with_reducible apply regW_skip
    · simp only [dstOk, Nat.reduceLT]
    · rfl
    · simp only [putSt, lk, lkb, reduceCtorEq, Nat.reduceEqDiff]; done)
 | (with_reducible apply regW_yesN
    · simp only [dstOk, Nat.reduceLT]
    · rfl
    · simp only [putSt, lk, lkb, reduceCtorEq, Nat.reduceEqDiff]; done)
 | (with_reducible apply regW_no
    · simp only [dstOk, Nat.reduceLT]
    · rfl
    · simp only [putSt, lk, lkb, reduceCtorEq, Nat.reduceEqDiff, Bool.not_true, Bool.not_false]; done)
 | (with_reducible apply regW_guardN
    · simp only [dstOk, Nat.reduceLT]
    · rfl
    · simp only [putSt, lk, lkb, reduceCtorEq, Nat.reduceEqDiff]; rfl
    all_goals (intro hc; (try (simp only [Bool.not_true, Bool.not_false] at hc))))
 | (with_reducible apply sw_cond
    · simp only [putSt, lk, lkb, reduceCtorEq, Nat.reduceEqDiff]; rfl
    all_goals (intro hc; try (cases hc; done)))
 | ((first
     | ((with_reducible refine gh_ret ?_)
        revert h
        with_reducible refine some_elim ?_
        rintro rfl)
     | (with_reducible apply regD_opK
        · simp only [dstOk, Nat.reduceLT]
        · simp only [Nat.reduceAdd]; rfl
        intro k hk)
     | (with_reducible apply regW_opK
        · simp only [dstOk, Nat.reduceLT]
        · simp only [Nat.reduceAdd]; rfl
        intro k hk)
     | skip)
    simp only [RetW, bn, lkb, evb, opC, opP, fetchN, fetchP, fetchAll, fetchO, Prog.bind, Prog.wp, Prog.wp_bind, lk, nameP, nameAll, Value.oneCell', putSt, stepP, putP, reduceCtorEq, V.lin, V.linL, D.lin, isNil, binP, unP, BinOp.isShift, Prog.ofO, Nat.reduceAdd, Nat.reduceMul, Nat.reduceSub, Nat.reduceLT, Nat.reduceLeDiff, Nat.reduceEqDiff, ite_true, ite_false, fieldAddrP, fieldP, indexAddrP, loadP, storeP, boxP, allocP, cellsP, asVal, setSeg, outP, outT, cntT, TyK.field, TyK.agg, zeroRow, V.ren, V.renL, forall_eq_or_imp, forall_const, minmaxP, lenP, lenOf, lenStr, V.asInt, decide_true, decide_false, sliceP, boundP, makeSliceP, convertP, appendP, rowsOfP, ontoP, sizeFits, V.rowSize, TyK.src, resV, resV.go, resV.gol, retP, retOne, retAll, resTo, objsAre, Option.map_eq_map, Function.const_apply, Int.reduceNeg, Int.reduceToNat, ty2, ty26, ty107, GI2.cells, cI, cB, cS, cL, GI2_e, LcIi64_e, buildP, buildSliceP, putParts, structPlaces, chunks, List.replicate, List.flatten_nil, List.flatten_cons, Option.bind_some, bb, GI2_b, LcIi64_b, nilEqP, ne_eq, not_false_eq_true, not_true_eq_false, *]
    try (refine hk.use _ _ _ _ ?_; clear hk k))
 | fail)
  all_goals (try rfl)
  all_goals (try (simp; done))
  all_goals (try (simp_all; done))
def spec_l17Preds.a4 (k : Nat) (a1 : (List GFunc)) (a2 : (List Int)) (a3 : (List (List Int))) (a4 : (List Int)) (a5 : Int) (a6 : Int) (a7 : Int) : Option ((List GFunc) × (List Int) × (List (List Int)) × (List Int) × Int × Int × Int × Bool) :=
  cond ((a7 == 0)) (some (a1, a2, a3, a4, a5, a6, a7, true)) ((idx a4 a7).bind fun m6 => (idx a4 0).bind fun m7 => some (a1, a2, a3, a4, a5, a6, a7, (m6 != m7)))
def spec_l17Preds.l3 : Nat → (List GFunc) → (List Int) → (List (List Int)) → (List Int) → Int → Int → Int → Option ((List GFunc) × (List Int) × (List (List Int)) × Int × Int)
  | 0, _, _, _, _, _, _, _ => none
  | k + 1, a1, a2, a3, a4, a5, a6, a7 => cond ((decide (a7 < ((a4.length : Int))))) ((spec_l17Preds.a4 k a1 a2 a3 a4 a5 a6 a7).bind fun o4 => cond o4.2.2.2.2.2.2.2 ((idx o4.2.2.2.1 o4.2.2.2.2.2.2.1).bind fun m8 => (idx o4.2.2.1 m8).bind fun m9 => gd ((m9.length + 1) * 8 ≤ 35184372088832 ∧ m9.length + 1 ≤ 35184372088832) (spec_l17Preds.l3 k o4.1 o4.2.1 ((o4.2.2.1.set m8.toNat ((m9 ++ [o4.2.2.2.2.2.1])))) o4.2.2.2.1 o4.2.2.2.2.1 o4.2.2.2.2.2.1 ((IntKind.i64.wrap (o4.2.2.2.2.2.2.1 + 1))))) (spec_l17Preds.l3 k o4.1 o4.2.1 o4.2.2.1 o4.2.2.2.1 o4.2.2.2.2.1 o4.2.2.2.2.2.1 ((IntKind.i64.wrap (o4.2.2.2.2.2.2.1 + 1))))) (some (a1, a2, a3, a5, a6))
def spec_l17Preds.a2 (k : Nat) (a1 : (List GFunc)) (a2 : (List Int)) (a3 : (List (List Int))) (a4 : Int) (a5 : Int) : Option ((List GFunc) × (List Int) × (List (List Int)) × Int × Int) :=
  (idx a2 a5).bind fun m2 => cond ((decide (m2 < 0))) (some (a1, a2, a3, a4, a5)) ((idx a1 a4).bind fun m3 => (idx m3.code a5).bind fun m4 => (spec_l08Next k m4 a5).bind fun t5 => (spec_l17Preds.l3 k a1 a2 a3 t5 a4 a5 0).bind fun o3 => some (o3.1, o3.2.1, o3.2.2.1, o3.2.2.2.1, o3.2.2.2.2))
def spec_l17Preds.l1 : Nat → (List GFunc) → (List Int) → (List (List Int)) → Int → Int → Option ((List (List Int)))
  | 0, _, _, _, _, _ => none
  | k + 1, a1, a2, a3, a4, a5 => cond ((decide (a5 < ((a2.length : Int))))) ((spec_l17Preds.a2 k a1 a2 a3 a4 a5).bind fun o2 => spec_l17Preds.l1 k o2.1 o2.2.1 o2.2.2.1 o2.2.2.2.1 ((IntKind.i64.wrap (o2.2.2.2.2 + 1)))) (some (a3))
def spec_l17Preds (k : Nat) (p0 : GProgram) (p1 : Int) : Option ((List (List Int))) :=
  (spec_l04Heights k p0 p1).bind fun t1 => gd (0 ≤ (t1.1.length : Int) ∧ ((t1.1.length : Int)) * 24 ≤ 35184372088832 ∧ (t1.1.length : Int) ≤ 35184372088832) ((spec_l17Preds.l1 k p0.funcs t1.1 ((List.replicate t1.1.length [])) p1 0).bind fun o1 => some o1)
theorem c_spec_l17Preds {k : Nat} {p0 : GProgram} {p1 : Int} {r : (List (List Int))} (h : spec_l17Preds k p0 p1 = some r) : Con Try.prog 37 [.agg [.d (.row .bor 3 (Rw (GFunc.cells .bor) p0.funcs))], V.int p1] [] (.d (.row .own 1 (Rw (cL .own 1 (cI .i64)) r))) [] := by
  refine con_of_sw Try.func37 rfl Try.call37 (by simp [Try.ntmps37]) (by simp [V.inNs, V.inN]) (by simp [C.inN, V.inNss, V.inNs, V.inN, inNss_dd]) (by simp [V.inNs, V.inN]) (by simp [C.inN, V.inNss, V.inNs, V.inN, inNss_dd]) rfl ?_
  rw [Try.ntmps37, Try.results37]
  unfold spec_l17Preds at h
  replace h := Yes.mk h
  simp only [entryS, entryO, Nat.reduceAdd, List.length_nil, List.length_cons]
  repeat' (first
 | (with_reducible (first | refine sw_reg ?_ | refine sw_ret ?_ | refine sw_skip ?_ | refine sw_block ?_ | refine sw_exit ?_ | refine seqQ_normal ?_ | refine blockQ_normal ?_ | refine blockQ_ret ?_ | refine blockQ_this ?_ | refine blockQ_other (by decide) ?_ | refine regW_nil ?_ | refine sw_draw mixed ?_ | refine retQ_ret ?_ | refine retQ_normal ?_))
 | (with_reducible refine regD_nil ?_
    refine ⟨by kernel_rfl, ?_⟩)
 | (revert h; (first | ((with_reducible refine idx_elim ?_); intro m hm1 hm2 hm3 h; (try (simp only [Int.reduceToNat] at hm3)); (try (revert hm3; (with_reducible apply same_elim); (focus (with_reducible assumption)); rintro rfl)); (try (simp only [List.length_set, List.length_cons, List.length_nil, List.length_replicate, Nat.reduceAdd, Int.cast_ofNat_Int, Nat.zero_add, List.length_append] at hm2))) | (with_reducible refine sidx_elim ?_; intro m hm1 hm3 h) | (with_reducible refine gd_elim ?_; intro hg h; try (have hg2 := hg.2; have hg := hg.1; (try (simp only [Nat.reduceLeDiff] at hg2)); (try (revert hg2; (with_reducible refine toNat_elim hg ?_); intro hg2 hg4)); try (have hg3 := hg2.2; have hg2 := hg2.1; (try (simp only [Nat.reduceLeDiff] at hg3))))) | (with_reducible refine condt_elim ?_ ?_; (focus (with_reducible assumption)); intro h) | (with_reducible refine condf_elim ?_ ?_; (focus (with_reducible assumption)); intro h)))
 | ((first | with_reducible refine seqQ_ret (K := (fun st1 n1 => Gh st1 n1 (MeetA _ 40000000 _ _))) ?_ | with_reducible refine seqQ_exit (K := (fun st1 n1 => Gh st1 n1 (MeetA _ 40000000 _ _))) ?_)
    obtain rfl := h.get
    have h := hK4
    (try (simp only [Sum.elim_inl, Sum.elim_inr] at h)))
 | ((first | with_reducible refine seqQ_ret (K := (fun st1 n1 => Gh st1 n1 (NextS _ 30000000 _ _ _ _))) ?_ | with_reducible refine seqQ_exit (K := (fun st1 n1 => Gh st1 n1 (NextS _ 30000000 _ _ _ _))) ?_)
    obtain rfl := h.get
    have h := hK3
    (try (simp only [Sum.elim_inl, Sum.elim_inr] at h)))
 | ((first | with_reducible refine seqQ_ret (K := (fun st1 n1 => Gh st1 n1 (MeetA _ 20000000 _ _))) ?_ | with_reducible refine seqQ_exit (K := (fun st1 n1 => Gh st1 n1 (MeetA _ 20000000 _ _))) ?_)
    obtain rfl := h.get
    have h := hK2
    (try (simp only [Sum.elim_inl, Sum.elim_inr] at h)))
 | ((first | with_reducible refine seqQ_ret (K := (fun st1 n1 => Gh st1 n1 (NextS _ 10000000 _ _ _ _))) ?_ | with_reducible refine seqQ_exit (K := (fun st1 n1 => Gh st1 n1 (NextS _ 10000000 _ _ _ _))) ?_)
    obtain rfl := h.get
    have h := hK1
    (try (simp only [Sum.elim_inl, Sum.elim_inr] at h)))
 | (with_reducible refine here_join (a := (.region 11 _ _)) (b := (.cond (.tmp 59) _ _)) ?_
    skip
    revert h
    with_reducible refine bind_elimY ?_
    intro o4 h hK4
    unfold spec_l17Preds.a4 at h
    refine sw_join (ι := (List GFunc) × (List Int) × (List (List Int)) × (List Int) × Int × Int × Int × Bool) 40000000 (fun x : (List GFunc) × (List Int) × (List (List Int)) × (List Int) × Int × Int × Int × Bool => [(.s 1, some (.v (V.int x.2.2.2.2.1))), (.s 2, some (.v (.mp 0 1 0 0))), (.s 5, some (.v (.sl 256 1 0 x.2.1.length))), (.s 7, some (.v (.sl 896 1 0 x.2.2.1.length))), (.s 8, some (.v (V.int x.2.2.2.2.2.1))), (.s 9, some (.v (.sl 10001216 1 0 x.2.2.2.1.length))), (.s 10, some (.v (V.int x.2.2.2.2.2.2.1))), (.s 59, some (.v (V.bool x.2.2.2.2.2.2.2))), (.r 0, some (.o 1 [[.d (.row .bor 3 (Rw (GFunc.cells .bor) x.1))]])), (.r 256, some (.o 1 (dd (Rw (cI .i64) x.2.1)))), (.r 896, some (.o 1 (dd (Rw (cL .own 1 (cI .i64)) x.2.2.1)))), (.r 10001216, some (.o 1 (dd (Rw (cI .i64) x.2.2.2.1))))]) (fun x => Yes (some (x)) o4) ?_ ?_
    rotate_left
    rintro ⟨b1, b2, b3, b4, b5, b6, b7, b8⟩ h
    obtain rfl := h.get
    have h := hK4
    (try (simp only [Sum.elim_inl, Sum.elim_inr] at h))
    refine sw_gh ?_
    refine gh_sw ?_
    skip)
 | (with_reducible refine here_meet (N0 := 40000000) ?_
    skip
    (try (apply gh_resRow 896; (focus (simp only [putSt, lk, lkb, reduceCtorEq, Nat.reduceEqDiff]; try rfl)); (focus (first | (simp only [Rw_length, List.length_set]; omega) | (simp [Rw_length]; omega))); simp only [rxb, Nat.reduceAdd, Nat.reduceLeDiff, resSlotP, nameSlotP, Prog.wp, Prog.wp_bind, Prog.bind, Prog.ofO, putSt, lk, lkb, reduceCtorEq, Nat.reduceEqDiff, resV, resV.go, resV.gol, nameAll, nameP, outP, outT, cntT, V.lin, D.lin, *, mmb, GI2_Dset, GFunc_Dset, GProgram_Dset, GI3_Dset, LcIi64_Dset]))
    refine meet_to (_, _, _, _, _, _, _, _) (by decide) ?_ h ?_
    · exact (by simp [slNL, C.inN, V.inN, V.inNs, V.inNss, inNss_dd, inNs_map_d])
    · simp only [SubL, putSt, lk, lkb, reduceCtorEq, Nat.reduceEqDiff, List.length_set, List.length_replicate]; repeat' (first | apply And.intro | rfl | trivial | (simp only [*]; done)))
 | (with_reducible refine here_loop (c := (.seq (.seq (.region 9 _ _) _) _)) ?_
    skip
    revert h
    with_reducible refine bind_elimY ?_
    intro o3 h hK3
    refine sw_gh ?_
    (try (apply gh_resRow 896; (focus (simp only [putSt, lk, lkb, reduceCtorEq, Nat.reduceEqDiff]; try rfl)); (focus (first | (simp only [Rw_length, List.length_set]; omega) | (simp [Rw_length]; omega))); simp only [rxb, Nat.reduceAdd, Nat.reduceLeDiff, resSlotP, nameSlotP, Prog.wp, Prog.wp_bind, Prog.bind, Prog.ofO, putSt, lk, lkb, reduceCtorEq, Nat.reduceEqDiff, resV, resV.go, resV.gol, nameAll, nameP, outP, outT, cntT, V.lin, D.lin, *, mmb, GI2_Dset, GFunc_Dset, GProgram_Dset, GI3_Dset, LcIi64_Dset]))
    refine gh_sw ?_
    refine sw_loop (ι := Nat × (List GFunc) × (List Int) × (List (List Int)) × (List Int) × Int × Int × Int) 30000000 (by decide) (fun x : Nat × (List GFunc) × (List Int) × (List (List Int)) × (List Int) × Int × Int × Int => [(.s 1, some (.v (V.int x.2.2.2.2.2.1))), (.s 2, some (.v (.mp 0 1 0 0))), (.s 5, some (.v (.sl 256 1 0 x.2.2.1.length))), (.s 7, some (.v (.sl 896 1 0 x.2.2.2.1.length))), (.s 8, some (.v (V.int x.2.2.2.2.2.2.1))), (.s 9, some (.v (.sl 10001216 1 0 x.2.2.2.2.1.length))), (.s 10, some (.v (V.int x.2.2.2.2.2.2.2))), (.r 0, some (.o 1 [[.d (.row .bor 3 (Rw (GFunc.cells .bor) x.2.1))]])), (.r 256, some (.o 1 (dd (Rw (cI .i64) x.2.2.1)))), (.r 896, some (.o 1 (dd (Rw (cL .own 1 (cI .i64)) x.2.2.2.1)))), (.r 10001216, some (.o 1 (dd (Rw (cI .i64) x.2.2.2.2.1))))]) (fun x => x.1) (fun x => Yes (spec_l17Preds.l3 x.1 x.2.1 x.2.2.1 x.2.2.2.1 x.2.2.2.2.1 x.2.2.2.2.2.1 x.2.2.2.2.2.2.1 x.2.2.2.2.2.2.2) o3) (_, _, _, _, _, _, _, _) ?_ h ?_ ?_
    · exact (by simp [slNL, C.inN, V.inN, V.inNs, V.inNss, inNss_dd, inNs_map_d])
    · simp only [SubL, putSt, lk, lkb, reduceCtorEq, Nat.reduceEqDiff, List.length_set, List.length_replicate]; repeat' (first | apply And.intro | rfl | trivial | (simp only [*]; done))
    rintro ⟨_ | k, a1, a2, a3, a4, a5, a6, a7⟩ h
    · simp only [spec_l17Preds.l3] at h; exact h.none
    simp only [spec_l17Preds.l3] at h
)
 | (with_reducible refine here_next (N0 := 30000000) ?_
    skip
    (try (apply gh_resRow 896; (focus (simp only [putSt, lk, lkb, reduceCtorEq, Nat.reduceEqDiff]; try rfl)); (focus (first | (simp only [Rw_length, List.length_set]; omega) | (simp [Rw_length]; omega))); simp only [rxb, Nat.reduceAdd, Nat.reduceLeDiff, resSlotP, nameSlotP, Prog.wp, Prog.wp_bind, Prog.bind, Prog.ofO, putSt, lk, lkb, reduceCtorEq, Nat.reduceEqDiff, resV, resV.go, resV.gol, nameAll, nameP, outP, outT, cntT, V.lin, D.lin, *, mmb, GI2_Dset, GFunc_Dset, GProgram_Dset, GI3_Dset, LcIi64_Dset]))
    refine nexts_to (_, _, _, _, _, _, _, _) (by decide) ?_ (Nat.lt_succ_self _) h ?_
    · exact (by simp [slNL, C.inN, V.inN, V.inNs, V.inNss, inNss_dd, inNs_map_d])
    · simp only [SubL, putSt, lk, lkb, reduceCtorEq, Nat.reduceEqDiff, List.length_set, List.length_replicate]; repeat' (first | apply And.intro | rfl | trivial | (simp only [*]; done)))
 | (with_reducible refine here_join (a := (.block 1 _)) (b := (.region 5 _ _)) ?_
    skip
    revert h
    with_reducible refine bind_elimY ?_
    intro o2 h hK2
    unfold spec_l17Preds.a2 at h
    refine sw_join (ι := (List GFunc) × (List Int) × (List (List Int)) × Int × Int) 20000000 (fun x : (List GFunc) × (List Int) × (List (List Int)) × Int × Int => [(.s 1, some (.v (V.int x.2.2.2.1))), (.s 2, some (.v (.mp 0 1 0 0))), (.s 5, some (.v (.sl 256 1 0 x.2.1.length))), (.s 7, some (.v (.sl 896 1 0 x.2.2.1.length))), (.s 8, some (.v (V.int x.2.2.2.2))), (.r 0, some (.o 1 [[.d (.row .bor 3 (Rw (GFunc.cells .bor) x.1))]])), (.r 256, some (.o 1 (dd (Rw (cI .i64) x.2.1)))), (.r 896, some (.o 1 (dd (Rw (cL .own 1 (cI .i64)) x.2.2.1))))]) (fun x => Yes (some (x)) o2) ?_ ?_
    rotate_left
    rintro ⟨b1, b2, b3, b4, b5⟩ h
    obtain rfl := h.get
    have h := hK2
    (try (simp only [Sum.elim_inl, Sum.elim_inr] at h))
    refine sw_gh ?_
    refine gh_sw ?_
    skip)
 | (with_reducible refine here_meet (N0 := 20000000) ?_
    skip
    (try (apply gh_resRow 896; (focus (simp only [putSt, lk, lkb, reduceCtorEq, Nat.reduceEqDiff]; try rfl)); (focus (first | (simp only [Rw_length, List.length_set]; omega) | (simp [Rw_length]; omega))); simp only [rxb, Nat.reduceAdd, Nat.reduceLeDiff, resSlotP, nameSlotP, Prog.wp, Prog.wp_bind, Prog.bind, Prog.ofO, putSt, lk, lkb, reduceCtorEq, Nat.reduceEqDiff, resV, resV.go, resV.gol, nameAll, nameP, outP, outT, cntT, V.lin, D.lin, *, mmb, GI2_Dset, GFunc_Dset, GProgram_Dset, GI3_Dset, LcIi64_Dset]))
    refine meet_to (_, _, _, _, _) (by decide) ?_ h ?_
    · exact (by simp [slNL, C.inN, V.inN, V.inNs, V.inNss, inNss_dd, inNs_map_d])
    · simp only [SubL, putSt, lk, lkb, reduceCtorEq, Nat.reduceEqDiff, List.length_set, List.length_replicate]; repeat' (first | apply And.intro | rfl | trivial | (simp only [*]; done)))
 | (with_reducible refine here_loop (c := (.seq (.seq (.region 4 _ _) _) _)) ?_
    skip
    revert h
    with_reducible refine bind_elimY ?_
    intro o1 h hK1
    refine sw_gh ?_
    (try (apply gh_zero (f := (cL .own 1 (cI .i64))) 896 []; (focus (simp only [putSt, lk, lkb, reduceCtorEq, Nat.reduceEqDiff]; try rfl)); (focus (exact .cons .nil (.nil)))))
    (try (apply gh_resRow 896; (focus (simp only [putSt, lk, lkb, reduceCtorEq, Nat.reduceEqDiff]; try rfl)); (focus (first | (simp only [Rw_length, List.length_set]; omega) | (simp [Rw_length]; omega))); simp only [rxb, Nat.reduceAdd, Nat.reduceLeDiff, resSlotP, nameSlotP, Prog.wp, Prog.wp_bind, Prog.bind, Prog.ofO, putSt, lk, lkb, reduceCtorEq, Nat.reduceEqDiff, resV, resV.go, resV.gol, nameAll, nameP, outP, outT, cntT, V.lin, D.lin, *, mmb, GI2_Dset, GFunc_Dset, GProgram_Dset, GI3_Dset, LcIi64_Dset]))
    refine gh_sw ?_
    refine sw_loop (ι := Nat × (List GFunc) × (List Int) × (List (List Int)) × Int × Int) 10000000 (by decide) (fun x : Nat × (List GFunc) × (List Int) × (List (List Int)) × Int × Int => [(.s 1, some (.v (V.int x.2.2.2.2.1))), (.s 2, some (.v (.mp 0 1 0 0))), (.s 5, some (.v (.sl 256 1 0 x.2.2.1.length))), (.s 7, some (.v (.sl 896 1 0 x.2.2.2.1.length))), (.s 8, some (.v (V.int x.2.2.2.2.2))), (.r 0, some (.o 1 [[.d (.row .bor 3 (Rw (GFunc.cells .bor) x.2.1))]])), (.r 256, some (.o 1 (dd (Rw (cI .i64) x.2.2.1)))), (.r 896, some (.o 1 (dd (Rw (cL .own 1 (cI .i64)) x.2.2.2.1))))]) (fun x => x.1) (fun x => Yes (spec_l17Preds.l1 x.1 x.2.1 x.2.2.1 x.2.2.2.1 x.2.2.2.2.1 x.2.2.2.2.2) o1) (_, _, _, _, _, _) ?_ h ?_ ?_
    · exact (by simp [slNL, C.inN, V.inN, V.inNs, V.inNss, inNss_dd, inNs_map_d])
    · simp only [SubL, putSt, lk, lkb, reduceCtorEq, Nat.reduceEqDiff, List.length_set, List.length_replicate]; repeat' (first | apply And.intro | rfl | trivial | (simp only [*]; done))
    rintro ⟨_ | k, a1, a2, a3, a4, a5⟩ h
    · simp only [spec_l17Preds.l1] at h; exact h.none
    simp only [spec_l17Preds.l1] at h
)
 | (with_reducible refine here_next (N0 := 10000000) ?_
    skip
    (try (apply gh_zero (f := (cL .own 1 (cI .i64))) 896 []; (focus (simp only [putSt, lk, lkb, reduceCtorEq, Nat.reduceEqDiff]; try rfl)); (focus (exact .cons .nil (.nil)))))
    (try (apply gh_resRow 896; (focus (simp only [putSt, lk, lkb, reduceCtorEq, Nat.reduceEqDiff]; try rfl)); (focus (first | (simp only [Rw_length, List.length_set]; omega) | (simp [Rw_length]; omega))); simp only [rxb, Nat.reduceAdd, Nat.reduceLeDiff, resSlotP, nameSlotP, Prog.wp, Prog.wp_bind, Prog.bind, Prog.ofO, putSt, lk, lkb, reduceCtorEq, Nat.reduceEqDiff, resV, resV.go, resV.gol, nameAll, nameP, outP, outT, cntT, V.lin, D.lin, *, mmb, GI2_Dset, GFunc_Dset, GProgram_Dset, GI3_Dset, LcIi64_Dset]))
    refine nexts_to (_, _, _, _, _, _) (by decide) ?_ (Nat.lt_succ_self _) h ?_
    · exact (by simp [slNL, C.inN, V.inN, V.inNs, V.inNss, inNss_dd, inNs_map_d])
    · simp only [SubL, putSt, lk, lkb, reduceCtorEq, Nat.reduceEqDiff, List.length_set, List.length_replicate]; repeat' (first | apply And.intro | rfl | trivial | (simp only [*]; done)))
 | with_reducible refine sw_seq ?_
 | with_reducible refine seqQ_ret ?_
 | with_reducible refine seqQ_exit ?_
 | (with_reducible refine gh_nilRow 4 .own 1 ?_ ?_
    · simp only [putSt, lk, lkb, reduceCtorEq, Nat.reduceEqDiff]; done
    skip)
 | ((with_reducible refine wp_ite ?_ ?_)
    all_goals (intro hc; (try (simp only [Bool.not_eq_true, Bool.not_eq_false] at hc)); simp only [hc]))
 | (with_reducible apply regW_skip
    · simp only [dstOk, Nat.reduceLT]
    · rfl
    · simp only [putSt, lk, lkb, reduceCtorEq, Nat.reduceEqDiff]; done)
 | (with_reducible apply regW_yesN
    · simp only [dstOk, Nat.reduceLT]
    · rfl
    · simp only [putSt, lk, lkb, reduceCtorEq, Nat.reduceEqDiff]; done)
 | (with_reducible apply regW_no
    · simp only [dstOk, Nat.reduceLT]
    · rfl
    · simp only [putSt, lk, lkb, reduceCtorEq, Nat.reduceEqDiff, Bool.not_true, Bool.not_false]; done)
 | (with_reducible apply regW_guardN
    · simp only [dstOk, Nat.reduceLT]
    · rfl
    · simp only [putSt, lk, lkb, reduceCtorEq, Nat.reduceEqDiff]; rfl
    all_goals (intro hc; (try (simp only [Bool.not_true, Bool.not_false] at hc))))
 | (with_reducible apply sw_cond
    · simp only [putSt, lk, lkb, reduceCtorEq, Nat.reduceEqDiff]; rfl
    all_goals (intro hc; try (cases hc; done)))
 | ((first
     | ((with_reducible refine gh_ret ?_)
        revert h
        with_reducible refine some_elim ?_
        rintro rfl)
     | (with_reducible refine here_call ?_
        revert h
        with_reducible refine bind_elim ?_
        intro t ht h
        (first
          | (refine call_dataE (c_spec_l04Heights ht) ?_ rfl ?_
             · first | rfl | (simp; done))
          | (refine call_dataE (c_spec_l08Next ht) ?_ rfl ?_
             · first | rfl | (simp; done))))
     | (with_reducible apply regD_opK
        · simp only [dstOk, Nat.reduceLT]
        · simp only [Nat.reduceAdd]; rfl
        intro k hk)
     | (with_reducible apply regW_opK
        · simp only [dstOk, Nat.reduceLT]
        · simp only [Nat.reduceAdd]; rfl
        intro k hk)
     | skip)
    simp only [RetW, bn, lkb, evb, opC, opP, fetchN, fetchP, fetchAll, fetchO, Prog.bind, Prog.wp, Prog.wp_bind, lk, nameP, nameAll, Value.oneCell', putSt, stepP, putP, reduceCtorEq, V.lin, V.linL, D.lin, isNil, binP, unP, BinOp.isShift, Prog.ofO, Nat.reduceAdd, Nat.reduceMul, Nat.reduceSub, Nat.reduceLT, Nat.reduceLeDiff, Nat.reduceEqDiff, ite_true, ite_false, fieldAddrP, fieldP, indexAddrP, loadP, storeP, boxP, allocP, cellsP, asVal, setSeg, outP, outT, cntT, TyK.field, TyK.agg, zeroRow, V.ren, V.renL, forall_eq_or_imp, forall_const, minmaxP, lenP, lenOf, lenStr, V.asInt, decide_true, decide_false, sliceP, boundP, makeSliceP, convertP, appendP, rowsOfP, ontoP, sizeFits, V.rowSize, TyK.src, resV, resV.go, resV.gol, retP, retOne, retAll, resTo, objsAre, Option.map_eq_map, Function.const_apply, Int.reduceNeg, Int.reduceToNat, ty2, ty3, ty26, ty28, ty30, ty53, ty63, ty65, ty77, ty107, GFunc.cells, GI2.cells, GI3.cells, GProgram.cells, cI, cB, cS, cL, GI2_e, GFunc_e, GProgram_e, GI3_e, LcIi64_e, buildP, buildSliceP, putParts, structPlaces, chunks, List.replicate, List.flatten_nil, List.flatten_cons, Option.bind_some, bb, GI2_b, GFunc_b, GProgram_b, GI3_b, LcIi64_b, nilEqP, ne_eq, not_false_eq_true, not_true_eq_false, *]
    try (refine hk.use _ _ _ _ ?_; clear hk k))
 | fail)
  all_goals (try rfl)
  all_goals (try (simp; done))
  all_goals (try (simp_all; done))
def spec_Preds.a1 (k : Nat) (a1 : (List GFunc)) (a2 : Int) (a3 : Int) : Option (((List Int)) ⊕ ((List GFunc) × Int × Int)) :=
  (spec_l04Is k ((⟨a1⟩ : GProgram)) a2).bind fun t1 => cond ((!t1)) (some (.inl ([]))) (cond ((decide (a3 < 0))) (some (.inl ([]))) ((idx a1 a2).bind fun m2 => cond ((decide (a3 ≥ ((m2.code.length : Int))))) (some (.inl ([]))) (some (.inr (a1, a2, a3)))))
def spec_Preds (k : Nat) (p0 : GProgram) (p1 : Int) (p2 : Int) : Option ((List Int)) :=
  (spec_Preds.a1 k p0.funcs p1 p2).bind fun o1 => Sum.elim (fun o1l => some o1l) (fun o1r => (spec_l17Preds k ((⟨o1r.1⟩ : GProgram)) o1r.2.1).bind fun t3 => (idx t3 o1r.2.2).bind fun m4 => gd (m4.length * 8 ≤ 35184372088832 ∧ m4.length ≤ 35184372088832) (some m4)) o1
def impl_in (p0 : Int) (p1 : Int) (p2 : Int) : Option (Bool) :=
  cond ((decide (p0 ≥ p1))) (some ((decide (p0 ≤ p2)))) (some false)
theorem c_impl_in {p0 : Int} {p1 : Int} {p2 : Int} {r : Bool} (h : impl_in p0 p1 p2 = some r) : Con Try.prog 71 [V.int p0, V.int p1, V.int p2] [] (V.bool r) [] := by
  refine con_of_sw Try.func71 rfl Try.call71 (by simp [Try.ntmps71]) (by simp [V.inNs, V.inN]) (by simp [C.inN, V.inNss, V.inNs, V.inN, inNss_dd]) (by simp [V.inNs, V.inN]) (by simp [C.inN, V.inNss, V.inNs, V.inN, inNss_dd]) rfl ?_
  rw [Try.ntmps71, Try.results71]
  unfold impl_in at h
  replace h := Yes.mk h
  simp only [entryS, entryO, Nat.reduceAdd, List.length_nil, List.length_cons]
  repeat' (first
 | (with_reducible (first | refine sw_reg ?_ | refine sw_ret ?_ | refine sw_skip ?_ | refine sw_block ?_ | refine sw_exit ?_ | refine seqQ_normal ?_ | refine blockQ_normal ?_ | refine blockQ_ret ?_ | refine blockQ_this ?_ | refine blockQ_other (by decide) ?_ | refine regW_nil ?_ | refine sw_draw mixed ?_ | refine retQ_ret ?_ | refine retQ_normal ?_))
 | (with_reducible refine regD_nil ?_
    refine ⟨by kernel_rfl, ?_⟩)
 | (revert h; (first | ((with_reducible refine idx_elim ?_); intro m hm1 hm2 hm3 h; (try (simp only [Int.reduceToNat] at hm3)); (try (revert hm3; (with_reducible apply same_elim); (focus (with_reducible assumption)); rintro rfl)); (try (simp only [List.length_set, List.length_cons, List.length_nil, List.length_replicate, Nat.reduceAdd, Int.cast_ofNat_Int, Nat.zero_add, List.length_append] at hm2))) | (with_reducible refine sidx_elim ?_; intro m hm1 hm3 h) | (with_reducible refine gd_elim ?_; intro hg h; try (have hg2 := hg.2; have hg := hg.1; (try (simp only [Nat.reduceLeDiff] at hg2)); (try (revert hg2; (with_reducible refine toNat_elim hg ?_); intro hg2 hg4)); try (have hg3 := hg2.2; have hg2 := hg2.1; (try (simp only [Nat.reduceLeDiff] at hg3))))) | (with_reducible refine condt_elim ?_ ?_; (focus (with_reducible assumption)); intro h) | (with_reducible refine condf_elim ?_ ?_; (focus (with_reducible assumption)); intro h)))
 | with_reducible refine sw_seq ?_
 | with_reducible refine seqQ_ret ?_
 | with_reducible refine seqQ_exit ?_
 | ((with_reducible refine wp_ite ?_ ?_)
    all_goals (intro hc; (try (simp only [Bool.not_eq_true, Bool.not_eq_false] at hc)); simp only [hc]))
 | (with_reducible apply regW_skip
    · simp only [dstOk, Nat.reduceLT]
    · rfl
    · simp only [putSt, lk, lkb, reduceCtorEq, Nat.reduceEqDiff]; done)
 | (with_reducible apply regW_yesN
    · simp only [dstOk, Nat.reduceLT]
    · rfl
    · simp only [putSt, lk, lkb, reduceCtorEq, Nat.reduceEqDiff]; done)
 | (with_reducible apply regW_no
    · simp only [dstOk, Nat.reduceLT]
    · rfl
    · simp only [putSt, lk, lkb, reduceCtorEq, Nat.reduceEqDiff, Bool.not_true, Bool.not_false]; done)
 | (with_reducible apply regW_guardN
    · simp only [dstOk, Nat.reduceLT]
    · rfl
    · simp only [putSt, lk, lkb, reduceCtorEq, Nat.reduceEqDiff]; rfl
    all_goals (intro hc; (try (simp only [Bool.not_true, Bool.not_false] at hc))))
 | (with_reducible apply sw_cond
    · simp only [putSt, lk, lkb, reduceCtorEq, Nat.reduceEqDiff]; rfl
    all_goals (intro hc; try (cases hc; done)))
 | ((first
     | ((with_reducible refine gh_ret ?_)
        revert h
        with_reducible refine some_elim ?_
        rintro rfl)
     | (with_reducible apply regD_opK
        · simp only [dstOk, Nat.reduceLT]
        · simp only [Nat.reduceAdd]; rfl
        intro k hk)
     | (with_reducible apply regW_opK
        · simp only [dstOk, Nat.reduceLT]
        · simp only [Nat.reduceAdd]; rfl
        intro k hk)
     | skip)
    simp only [RetW, bn, lkb, evb, opC, opP, fetchN, fetchP, fetchAll, fetchO, Prog.bind, Prog.wp, Prog.wp_bind, lk, nameP, nameAll, Value.oneCell', putSt, stepP, putP, reduceCtorEq, V.lin, V.linL, D.lin, isNil, binP, unP, BinOp.isShift, Prog.ofO, Nat.reduceAdd, Nat.reduceMul, Nat.reduceSub, Nat.reduceLT, Nat.reduceLeDiff, Nat.reduceEqDiff, ite_true, ite_false, fieldAddrP, fieldP, indexAddrP, loadP, storeP, boxP, allocP, cellsP, asVal, setSeg, outP, outT, cntT, TyK.field, TyK.agg, zeroRow, V.ren, V.renL, forall_eq_or_imp, forall_const, minmaxP, lenP, lenOf, lenStr, V.asInt, decide_true, decide_false, sliceP, boundP, makeSliceP, convertP, appendP, rowsOfP, ontoP, sizeFits, V.rowSize, TyK.src, resV, resV.go, resV.gol, retP, retOne, retAll, resTo, objsAre, Option.map_eq_map, Function.const_apply, Int.reduceNeg, Int.reduceToNat, ty2, ty4, cI, cB, cS, cL, *]
    try (refine hk.use _ _ _ _ ?_; clear hk k))
 | fail)
  all_goals (try rfl)
  all_goals (try (simp; done))
  all_goals (try (simp_all; done))
def impl_hasFunc (p0 : GProgram) (p1 : Int) : Option (Bool) :=
  cond ((decide (p1 ≥ 0))) (some ((decide (p1 < ((p0.funcs.length : Int)))))) (some false)
theorem c_impl_hasFunc {p0 : GProgram} {p1 : Int} {r : Bool} (h : impl_hasFunc p0 p1 = some r) : Con Try.prog 70 [.agg [.d (.row .bor 3 (Rw (GFunc.cells .bor) p0.funcs))], V.int p1] [] (V.bool r) [] := by
  refine con_of_sw Try.func70 rfl Try.call70 (by simp [Try.ntmps70]) (by simp [V.inNs, V.inN]) (by simp [C.inN, V.inNss, V.inNs, V.inN, inNss_dd]) (by simp [V.inNs, V.inN]) (by simp [C.inN, V.inNss, V.inNs, V.inN, inNss_dd]) rfl ?_
  rw [Try.ntmps70, Try.results70]
  unfold impl_hasFunc at h
  replace h := Yes.mk h
  simp only [entryS, entryO, Nat.reduceAdd, List.length_nil, List.length_cons]
  repeat' (first
 | (with_reducible (first | refine sw_reg ?_ | refine sw_ret ?_ | refine sw_skip ?_ | refine sw_block ?_ | refine sw_exit ?_ | refine seqQ_normal ?_ | refine blockQ_normal ?_ | refine blockQ_ret ?_ | refine blockQ_this ?_ | refine blockQ_other (by decide) ?_ | refine regW_nil ?_ | refine sw_draw mixed ?_ | refine retQ_ret ?_ | refine retQ_normal ?_))
 | (with_reducible refine regD_nil ?_
    refine ⟨by kernel_rfl, ?_⟩)
 | (revert h; (first | ((with_reducible refine idx_elim ?_); intro m hm1 hm2 hm3 h; (try (simp only [Int.reduceToNat] at hm3)); (try (revert hm3; (with_reducible apply same_elim); (focus (with_reducible assumption)); rintro rfl)); (try (simp only [List.length_set, List.length_cons, List.length_nil, List.length_replicate, Nat.reduceAdd, Int.cast_ofNat_Int, Nat.zero_add, List.length_append] at hm2))) | (with_reducible refine sidx_elim ?_; intro m hm1 hm3 h) | (with_reducible refine gd_elim ?_; intro hg h; try (have hg2 := hg.2; have hg := hg.1; (try (simp only [Nat.reduceLeDiff] at hg2)); (try (revert hg2; (with_reducible refine toNat_elim hg ?_); intro hg2 hg4)); try (have hg3 := hg2.2; have hg2 := hg2.1; (try (simp only [Nat.reduceLeDiff] at hg3))))) | (with_reducible refine condt_elim ?_ ?_; (focus (with_reducible assumption)); intro h) | (with_reducible refine condf_elim ?_ ?_; (focus (with_reducible assumption)); intro h)))
 | with_reducible refine sw_seq ?_
 | with_reducible refine seqQ_ret ?_
 | with_reducible refine seqQ_exit ?_
 | ((with_reducible refine wp_ite ?_ ?_)
    all_goals (intro hc; (try (simp only [Bool.not_eq_true, Bool.not_eq_false] at hc)); simp only [hc]))
 | (with_reducible apply regW_skip
    · simp only [dstOk, Nat.reduceLT]
    · rfl
    · simp only [putSt, lk, lkb, reduceCtorEq, Nat.reduceEqDiff]; done)
 | (with_reducible apply regW_yesN
    · simp only [dstOk, Nat.reduceLT]
    · rfl
    · simp only [putSt, lk, lkb, reduceCtorEq, Nat.reduceEqDiff]; done)
 | (with_reducible apply regW_no
    · simp only [dstOk, Nat.reduceLT]
    · rfl
    · simp only [putSt, lk, lkb, reduceCtorEq, Nat.reduceEqDiff, Bool.not_true, Bool.not_false]; done)
 | (with_reducible apply regW_guardN
    · simp only [dstOk, Nat.reduceLT]
    · rfl
    · simp only [putSt, lk, lkb, reduceCtorEq, Nat.reduceEqDiff]; rfl
    all_goals (intro hc; (try (simp only [Bool.not_true, Bool.not_false] at hc))))
 | (with_reducible apply sw_cond
    · simp only [putSt, lk, lkb, reduceCtorEq, Nat.reduceEqDiff]; rfl
    all_goals (intro hc; try (cases hc; done)))
 | ((first
     | ((with_reducible refine gh_ret ?_)
        revert h
        with_reducible refine some_elim ?_
        rintro rfl)
     | (with_reducible apply regD_opK
        · simp only [dstOk, Nat.reduceLT]
        · simp only [Nat.reduceAdd]; rfl
        intro k hk)
     | (with_reducible apply regW_opK
        · simp only [dstOk, Nat.reduceLT]
        · simp only [Nat.reduceAdd]; rfl
        intro k hk)
     | skip)
    simp only [RetW, bn, lkb, evb, opC, opP, fetchN, fetchP, fetchAll, fetchO, Prog.bind, Prog.wp, Prog.wp_bind, lk, nameP, nameAll, Value.oneCell', putSt, stepP, putP, reduceCtorEq, V.lin, V.linL, D.lin, isNil, binP, unP, BinOp.isShift, Prog.ofO, Nat.reduceAdd, Nat.reduceMul, Nat.reduceSub, Nat.reduceLT, Nat.reduceLeDiff, Nat.reduceEqDiff, ite_true, ite_false, fieldAddrP, fieldP, indexAddrP, loadP, storeP, boxP, allocP, cellsP, asVal, setSeg, outP, outT, cntT, TyK.field, TyK.agg, zeroRow, V.ren, V.renL, forall_eq_or_imp, forall_const, minmaxP, lenP, lenOf, lenStr, V.asInt, decide_true, decide_false, sliceP, boundP, makeSliceP, convertP, appendP, rowsOfP, ontoP, sizeFits, V.rowSize, TyK.src, resV, resV.go, resV.gol, retP, retOne, retAll, resTo, objsAre, Option.map_eq_map, Function.const_apply, Int.reduceNeg, Int.reduceToNat, ty2, ty4, ty28, ty30, ty63, ty65, ty107, GFunc.cells, GI2.cells, GProgram.cells, cI, cB, cS, cL, GI2_e, GFunc_e, GProgram_e, *]
    try (refine hk.use _ _ _ _ ?_; clear hk k))
 | fail)
  all_goals (try rfl)
  all_goals (try (simp; done))
  all_goals (try (simp_all; done))
def impl_opNames : Option ((List ByteArray)) :=
  some ([(⟨#[]⟩ : ByteArray), (⟨#[112, 117, 115, 104]⟩ : ByteArray), (⟨#[108, 111, 97, 100]⟩ : ByteArray), (⟨#[115, 116, 111, 114, 101]⟩ : ByteArray), (⟨#[100, 117, 112]⟩ : ByteArray), (⟨#[112, 111, 112]⟩ : ByteArray), (⟨#[]⟩ : ByteArray), (⟨#[]⟩ : ByteArray), (⟨#[]⟩ : ByteArray), (⟨#[]⟩ : ByteArray), (⟨#[97, 100, 100]⟩ : ByteArray), (⟨#[115, 117, 98]⟩ : ByteArray), (⟨#[109, 117, 108]⟩ : ByteArray), (⟨#[100, 105, 118]⟩ : ByteArray), (⟨#[114, 101, 109]⟩ : ByteArray), (⟨#[97, 110, 100]⟩ : ByteArray), (⟨#[111, 114]⟩ : ByteArray), (⟨#[120, 111, 114]⟩ : ByteArray), (⟨#[115, 104, 108]⟩ : ByteArray), (⟨#[115, 104, 114]⟩ : ByteArray), (⟨#[117, 115, 104, 114]⟩ : ByteArray), (⟨#[108, 101, 115, 115]⟩ : ByteArray), (⟨#[97, 116, 109, 111, 115, 116]⟩ : ByteArray), (⟨#[115, 97, 109, 101]⟩ : ByteArray), (⟨#[110, 101, 103]⟩ : ByteArray), (⟨#[110, 111, 116]⟩ : ByteArray), (⟨#[98, 121, 116, 101]⟩ : ByteArray), (⟨#[115, 104, 111, 114, 116]⟩ : ByteArray), (⟨#[105, 110, 116]⟩ : ByteArray), (⟨#[119, 111, 114, 100]⟩ : ByteArray), (⟨#[106, 117, 109, 112]⟩ : ByteArray), (⟨#[106, 122]⟩ : ByteArray), (⟨#[99, 97, 108, 108]⟩ : ByteArray), (⟨#[114, 101, 116]⟩ : ByteArray), (⟨#[110, 101, 119]⟩ : ByteArray), (⟨#[103, 101, 116]⟩ : ByteArray), (⟨#[115, 101, 116]⟩ : ByteArray), (⟨#[108, 101, 110]⟩ : ByteArray), (⟨#[111, 117, 116]⟩ : ByteArray)])
theorem c_impl_opNames {r : (List ByteArray)} (h : impl_opNames = some r) : Con Try.prog 127 [] [] (.d (.row .own 1 (Rw cS r))) [] := by
  refine con_of_sw Try.func127 rfl Try.call127 (by simp [Try.ntmps127]) (by simp [V.inNs, V.inN]) (by simp [C.inN, V.inNss, V.inNs, V.inN, inNss_dd]) (by simp [V.inNs, V.inN]) (by simp [C.inN, V.inNss, V.inNs, V.inN, inNss_dd]) rfl ?_
  rw [Try.ntmps127, Try.results127]
  unfold impl_opNames at h
  replace h := Yes.mk h
  simp only [entryS, entryO, Nat.reduceAdd, List.length_nil, List.length_cons]
  repeat' (first
 | (with_reducible (first | refine sw_reg ?_ | refine sw_ret ?_ | refine sw_skip ?_ | refine sw_block ?_ | refine sw_exit ?_ | refine seqQ_normal ?_ | refine blockQ_normal ?_ | refine blockQ_ret ?_ | refine blockQ_this ?_ | refine blockQ_other (by decide) ?_ | refine regW_nil ?_ | refine sw_draw mixed ?_ | refine retQ_ret ?_ | refine retQ_normal ?_))
 | (with_reducible refine regD_nil ?_
    refine ⟨by kernel_rfl, ?_⟩)
 | (revert h; (first | ((with_reducible refine idx_elim ?_); intro m hm1 hm2 hm3 h; (try (simp only [Int.reduceToNat] at hm3)); (try (revert hm3; (with_reducible apply same_elim); (focus (with_reducible assumption)); rintro rfl)); (try (simp only [List.length_set, List.length_cons, List.length_nil, List.length_replicate, Nat.reduceAdd, Int.cast_ofNat_Int, Nat.zero_add, List.length_append] at hm2))) | (with_reducible refine sidx_elim ?_; intro m hm1 hm3 h) | (with_reducible refine gd_elim ?_; intro hg h; try (have hg2 := hg.2; have hg := hg.1; (try (simp only [Nat.reduceLeDiff] at hg2)); (try (revert hg2; (with_reducible refine toNat_elim hg ?_); intro hg2 hg4)); try (have hg3 := hg2.2; have hg2 := hg2.1; (try (simp only [Nat.reduceLeDiff] at hg3))))) | (with_reducible refine condt_elim ?_ ?_; (focus (with_reducible assumption)); intro h) | (with_reducible refine condf_elim ?_ ?_; (focus (with_reducible assumption)); intro h)))
 | with_reducible refine sw_seq ?_
 | with_reducible refine seqQ_ret ?_
 | with_reducible refine seqQ_exit ?_
 | (with_reducible refine gh_nilRow 0 .own 1 ?_ ?_
    · simp only [putSt, lk, lkb, reduceCtorEq, Nat.reduceEqDiff]; done
    skip)
 | ((with_reducible refine wp_ite ?_ ?_)
    all_goals (intro hc; (try (simp only [Bool.not_eq_true, Bool.not_eq_false] at hc)); simp only [hc]))
 | (with_reducible apply regW_skip
    · simp only [dstOk, Nat.reduceLT]
    · rfl
    · simp only [putSt, lk, lkb, reduceCtorEq, Nat.reduceEqDiff]; done)
 | (with_reducible apply regW_yesN
    · simp only [dstOk, Nat.reduceLT]
    · rfl
    · simp only [putSt, lk, lkb, reduceCtorEq, Nat.reduceEqDiff]; done)
 | (with_reducible apply regW_no
    · simp only [dstOk, Nat.reduceLT]
    · rfl
    · simp only [putSt, lk, lkb, reduceCtorEq, Nat.reduceEqDiff, Bool.not_true, Bool.not_false]; done)
 | (with_reducible apply regW_guardN
    · simp only [dstOk, Nat.reduceLT]
    · rfl
    · simp only [putSt, lk, lkb, reduceCtorEq, Nat.reduceEqDiff]; rfl
    all_goals (intro hc; (try (simp only [Bool.not_true, Bool.not_false] at hc))))
 | (with_reducible apply sw_cond
    · simp only [putSt, lk, lkb, reduceCtorEq, Nat.reduceEqDiff]; rfl
    all_goals (intro hc; try (cases hc; done)))
 | ((first
     | ((with_reducible refine gh_ret ?_)
        revert h
        with_reducible refine some_elim ?_
        rintro rfl)
     | (with_reducible apply regD_opK
        · simp only [dstOk, Nat.reduceLT]
        · simp only [Nat.reduceAdd]; rfl
        intro k hk)
     | (with_reducible apply regW_opK
        · simp only [dstOk, Nat.reduceLT]
        · simp only [Nat.reduceAdd]; rfl
        intro k hk)
     | skip)
    simp only [RetW, bn, lkb, evb, opC, opP, fetchN, fetchP, fetchAll, fetchO, Prog.bind, Prog.wp, Prog.wp_bind, lk, nameP, nameAll, Value.oneCell', putSt, stepP, putP, reduceCtorEq, V.lin, V.linL, D.lin, isNil, binP, unP, BinOp.isShift, Prog.ofO, Nat.reduceAdd, Nat.reduceMul, Nat.reduceSub, Nat.reduceLT, Nat.reduceLeDiff, Nat.reduceEqDiff, ite_true, ite_false, fieldAddrP, fieldP, indexAddrP, loadP, storeP, boxP, allocP, cellsP, asVal, setSeg, outP, outT, cntT, TyK.field, TyK.agg, zeroRow, V.ren, V.renL, forall_eq_or_imp, forall_const, minmaxP, lenP, lenOf, lenStr, V.asInt, decide_true, decide_false, sliceP, boundP, makeSliceP, convertP, appendP, rowsOfP, ontoP, sizeFits, V.rowSize, TyK.src, resV, resV.go, resV.gol, retP, retOne, retAll, resTo, objsAre, Option.map_eq_map, Function.const_apply, Int.reduceNeg, Int.reduceToNat, ty9, ty177, cI, cB, cS, cL, buildP, buildSliceP, putParts, structPlaces, chunks, List.replicate, List.flatten_nil, List.flatten_cons, Option.bind_some, bb, nilEqP, ne_eq, not_false_eq_true, not_true_eq_false, *]
    try (refine hk.use _ _ _ _ ?_; clear hk k))
 | fail)
  all_goals (try rfl)
  all_goals (try (simp; done))
  all_goals (try (simp_all; done))
def impl_OpName (p0 : Int) : Option (ByteArray) :=
  (impl_in p0 0 38).bind fun t1 => cond ((!t1)) (some ((⟨#[]⟩ : ByteArray))) ((impl_opNames).bind fun t2 => (idx t2 p0).bind fun m3 => some m3)
theorem c_impl_OpName {p0 : Int} {r : ByteArray} (h : impl_OpName p0 = some r) : Con Try.prog 120 [V.int p0] [] (.d (.p (.string r))) [] := by
  refine con_of_sw Try.func120 rfl Try.call120 (by simp [Try.ntmps120]) (by simp [V.inNs, V.inN]) (by simp [C.inN, V.inNss, V.inNs, V.inN, inNss_dd]) (by simp [V.inNs, V.inN]) (by simp [C.inN, V.inNss, V.inNs, V.inN, inNss_dd]) rfl ?_
  rw [Try.ntmps120, Try.results120]
  unfold impl_OpName at h
  replace h := Yes.mk h
  simp only [entryS, entryO, Nat.reduceAdd, List.length_nil, List.length_cons]
  repeat' (first
 | (with_reducible (first | refine sw_reg ?_ | refine sw_ret ?_ | refine sw_skip ?_ | refine sw_block ?_ | refine sw_exit ?_ | refine seqQ_normal ?_ | refine blockQ_normal ?_ | refine blockQ_ret ?_ | refine blockQ_this ?_ | refine blockQ_other (by decide) ?_ | refine regW_nil ?_ | refine sw_draw mixed ?_ | refine retQ_ret ?_ | refine retQ_normal ?_))
 | (with_reducible refine regD_nil ?_
    refine ⟨by kernel_rfl, ?_⟩)
 | (revert h; (first | ((with_reducible refine idx_elim ?_); intro m hm1 hm2 hm3 h; (try (simp only [Int.reduceToNat] at hm3)); (try (revert hm3; (with_reducible apply same_elim); (focus (with_reducible assumption)); rintro rfl)); (try (simp only [List.length_set, List.length_cons, List.length_nil, List.length_replicate, Nat.reduceAdd, Int.cast_ofNat_Int, Nat.zero_add, List.length_append] at hm2))) | (with_reducible refine sidx_elim ?_; intro m hm1 hm3 h) | (with_reducible refine gd_elim ?_; intro hg h; try (have hg2 := hg.2; have hg := hg.1; (try (simp only [Nat.reduceLeDiff] at hg2)); (try (revert hg2; (with_reducible refine toNat_elim hg ?_); intro hg2 hg4)); try (have hg3 := hg2.2; have hg2 := hg2.1; (try (simp only [Nat.reduceLeDiff] at hg3))))) | (with_reducible refine condt_elim ?_ ?_; (focus (with_reducible assumption)); intro h) | (with_reducible refine condf_elim ?_ ?_; (focus (with_reducible assumption)); intro h)))
 | with_reducible refine sw_seq ?_
 | with_reducible refine seqQ_ret ?_
 | with_reducible refine seqQ_exit ?_
 | ((with_reducible refine wp_ite ?_ ?_)
    all_goals (intro hc; (try (simp only [Bool.not_eq_true, Bool.not_eq_false] at hc)); simp only [hc]))
 | (with_reducible apply regW_skip
    · simp only [dstOk, Nat.reduceLT]
    · rfl
    · simp only [putSt, lk, lkb, reduceCtorEq, Nat.reduceEqDiff]; done)
 | (with_reducible apply regW_yesN
    · simp only [dstOk, Nat.reduceLT]
    · rfl
    · simp only [putSt, lk, lkb, reduceCtorEq, Nat.reduceEqDiff]; done)
 | (with_reducible apply regW_no
    · simp only [dstOk, Nat.reduceLT]
    · rfl
    · simp only [putSt, lk, lkb, reduceCtorEq, Nat.reduceEqDiff, Bool.not_true, Bool.not_false]; done)
 | (with_reducible apply regW_guardN
    · simp only [dstOk, Nat.reduceLT]
    · rfl
    · simp only [putSt, lk, lkb, reduceCtorEq, Nat.reduceEqDiff]; rfl
    all_goals (intro hc; (try (simp only [Bool.not_true, Bool.not_false] at hc))))
 | (with_reducible apply sw_cond
    · simp only [putSt, lk, lkb, reduceCtorEq, Nat.reduceEqDiff]; rfl
    all_goals (intro hc; try (cases hc; done)))
 | ((first
     | ((with_reducible refine gh_ret ?_)
        revert h
        with_reducible refine some_elim ?_
        rintro rfl)
     | (with_reducible refine here_call ?_
        revert h
        with_reducible refine bind_elim ?_
        intro t ht h
        (first
          | (refine call_dataE (c_impl_in ht) ?_ rfl ?_
             · first | rfl | (simp; done))
          | (refine call_dataE (c_impl_opNames ht) ?_ rfl ?_
             · first | rfl | (simp; done))))
     | (with_reducible apply regD_opK
        · simp only [dstOk, Nat.reduceLT]
        · simp only [Nat.reduceAdd]; rfl
        intro k hk)
     | (with_reducible apply regW_opK
        · simp only [dstOk, Nat.reduceLT]
        · simp only [Nat.reduceAdd]; rfl
        intro k hk)
     | skip)
    simp only [RetW, bn, lkb, evb, opC, opP, fetchN, fetchP, fetchAll, fetchO, Prog.bind, Prog.wp, Prog.wp_bind, lk, nameP, nameAll, Value.oneCell', putSt, stepP, putP, reduceCtorEq, V.lin, V.linL, D.lin, isNil, binP, unP, BinOp.isShift, Prog.ofO, Nat.reduceAdd, Nat.reduceMul, Nat.reduceSub, Nat.reduceLT, Nat.reduceLeDiff, Nat.reduceEqDiff, ite_true, ite_false, fieldAddrP, fieldP, indexAddrP, loadP, storeP, boxP, allocP, cellsP, asVal, setSeg, outP, outT, cntT, TyK.field, TyK.agg, zeroRow, V.ren, V.renL, forall_eq_or_imp, forall_const, minmaxP, lenP, lenOf, lenStr, V.asInt, decide_true, decide_false, sliceP, boundP, makeSliceP, convertP, appendP, rowsOfP, ontoP, sizeFits, V.rowSize, TyK.src, resV, resV.go, resV.gol, retP, retOne, retAll, resTo, objsAre, Option.map_eq_map, Function.const_apply, Int.reduceNeg, Int.reduceToNat, ty2, ty4, ty9, ty177, cI, cB, cS, cL, *]
    try (refine hk.use _ _ _ _ ?_; clear hk k))
 | fail)
  all_goals (try rfl)
  all_goals (try (simp; done))
  all_goals (try (simp_all; done))
def impl_InsRight.a2 (k : Nat) (a1 : (List GFunc)) (a2 : GI2) (a3 : Int) (a4 : Int) : Option ((List GFunc) × GI2 × Int × Int × Bool) :=
  cond ((a4 == 2)) (some (a1, a2, a3, a4, true)) (some (a1, a2, a3, a4, (a4 == 3)))
def impl_InsRight.a3 (k : Nat) (a1 : (List GFunc)) (a2 : GI2) (a3 : Int) (a4 : Int) : Option ((List GFunc) × GI2 × Int × Int × Bool) :=
  cond ((a4 == 30)) (some (a1, a2, a3, a4, true)) (some (a1, a2, a3, a4, (a4 == 31)))
def impl_InsRight.a1 (k : Nat) (a1 : (List GFunc)) (a2 : GI2) (a3 : Int) : Option ((Bool) ⊕ (GI2)) :=
  cond ((a2.a == 1)) (some (.inl (true))) ((impl_InsRight.a2 k a1 a2 a3 a2.a).bind fun o2 => cond o2.2.2.2.2 (cond ((decide (o2.2.1.b ≥ 0))) ((idx o2.1 o2.2.2.1).bind fun m2 => some (.inl ((decide (o2.2.1.b < m2.locals))))) (some (.inl (false)))) ((impl_InsRight.a3 k o2.1 o2.2.1 o2.2.2.1 o2.2.2.2.1).bind fun o3 => cond o3.2.2.2.2 (cond ((decide (o3.2.1.b ≥ 0))) ((idx o3.1 o3.2.2.1).bind fun m3 => some (.inl ((decide (o3.2.1.b < ((m3.code.length : Int))))))) (some (.inl (false)))) (cond ((o3.2.2.2.1 == 32)) ((impl_hasFunc ((⟨o3.1⟩ : GProgram)) o3.2.1.b).bind fun t4 => some (.inl (t4))) (some (.inr (o3.2.1))))))
def impl_InsRight (k : Nat) (p0 : GProgram) (p1 : Int) (p2 : GI2) : Option (Bool) :=
  (impl_hasFunc p0 p1).bind fun t1 => cond ((!t1)) (some false) ((impl_InsRight.a1 k p0.funcs p2 p1).bind fun o1 => Sum.elim (fun o1l => some o1l) (fun o1r => (impl_OpName o1r.a).bind fun t5 => cond ((!(t5.toList == ((⟨#[]⟩ : ByteArray)).toList))) (some ((o1r.b == 0))) (some false)) o1)
theorem c_impl_InsRight {k : Nat} {p0 : GProgram} {p1 : Int} {p2 : GI2} {r : Bool} (h : impl_InsRight k p0 p1 p2 = some r) : Con Try.prog 110 [.agg [.d (.row .bor 3 (Rw (GFunc.cells .bor) p0.funcs))], V.int p1, .agg [V.int p2.a, V.int p2.b]] [] (V.bool r) [] := by
  refine con_of_sw Try.func110 rfl Try.call110 (by simp [Try.ntmps110]) (by simp [V.inNs, V.inN]) (by simp [C.inN, V.inNss, V.inNs, V.inN, inNss_dd]) (by simp [V.inNs, V.inN]) (by simp [C.inN, V.inNss, V.inNs, V.inN, inNss_dd]) rfl ?_
  rw [Try.ntmps110, Try.results110]
  unfold impl_InsRight at h
  replace h := Yes.mk h
  simp only [entryS, entryO, Nat.reduceAdd, List.length_nil, List.length_cons]
  repeat' (first
 | (with_reducible (first | refine sw_reg ?_ | refine sw_ret ?_ | refine sw_skip ?_ | refine sw_block ?_ | refine sw_exit ?_ | refine seqQ_normal ?_ | refine blockQ_normal ?_ | refine blockQ_ret ?_ | refine blockQ_this ?_ | refine blockQ_other (by decide) ?_ | refine regW_nil ?_ | refine sw_draw mixed ?_ | refine retQ_ret ?_ | refine retQ_normal ?_))
 | (with_reducible refine regD_nil ?_
    refine ⟨by kernel_rfl, ?_⟩)
 | (revert h; (first | ((with_reducible refine idx_elim ?_); intro m hm1 hm2 hm3 h; (try (simp only [Int.reduceToNat] at hm3)); (try (revert hm3; (with_reducible apply same_elim); (focus (with_reducible assumption)); rintro rfl)); (try (simp only [List.length_set, List.length_cons, List.length_nil, List.length_replicate, Nat.reduceAdd, Int.cast_ofNat_Int, Nat.zero_add, List.length_append] at hm2))) | (with_reducible refine sidx_elim ?_; intro m hm1 hm3 h) | (with_reducible refine gd_elim ?_; intro hg h; try (have hg2 := hg.2; have hg := hg.1; (try (simp only [Nat.reduceLeDiff] at hg2)); (try (revert hg2; (with_reducible refine toNat_elim hg ?_); intro hg2 hg4)); try (have hg3 := hg2.2; have hg2 := hg2.1; (try (simp only [Nat.reduceLeDiff] at hg3))))) | (with_reducible refine condt_elim ?_ ?_; (focus (with_reducible assumption)); intro h) | (with_reducible refine condf_elim ?_ ?_; (focus (with_reducible assumption)); intro h)))
 | ((first | with_reducible refine seqQ_ret (K := (fun st1 n1 => Gh st1 n1 (MeetA _ 30000000 _ _))) ?_ | with_reducible refine seqQ_exit (K := (fun st1 n1 => Gh st1 n1 (MeetA _ 30000000 _ _))) ?_)
    obtain rfl := h.get
    have h := hK3
    (try (simp only [Sum.elim_inl, Sum.elim_inr] at h)))
 | ((first | with_reducible refine seqQ_ret (K := (fun st1 n1 => Gh st1 n1 (MeetA _ 20000000 _ _))) ?_ | with_reducible refine seqQ_exit (K := (fun st1 n1 => Gh st1 n1 (MeetA _ 20000000 _ _))) ?_)
    obtain rfl := h.get
    have h := hK2
    (try (simp only [Sum.elim_inl, Sum.elim_inr] at h)))
 | ((first | with_reducible refine seqQ_ret (K := (fun st1 n1 => Gh st1 n1 (MeetA _ 10000000 _ _))) ?_ | with_reducible refine seqQ_exit (K := (fun st1 n1 => Gh st1 n1 (MeetA _ 10000000 _ _))) ?_)
    obtain rfl := h.get
    have h := hK1
    (try (simp only [Sum.elim_inl, Sum.elim_inr] at h)))
 | (with_reducible refine here_join (a := (.seq (.region 9 _ _) _)) (b := (.cond (.tmp 32) _ _)) ?_
    skip
    revert h
    with_reducible refine bind_elimY ?_
    intro o3 h hK3
    unfold impl_InsRight.a3 at h
    refine sw_join (ι := (List GFunc) × GI2 × Int × Int × Bool) 30000000 (fun x : (List GFunc) × GI2 × Int × Int × Bool => [(.s 1, some (.v (V.int x.2.2.1))), (.s 3, some (.v (.mp 0 1 0 0))), (.s 5, some (.v (.mp 64 2 0 0))), (.s 12, some (.v (V.int x.2.2.2.1))), (.s 32, some (.v (V.bool x.2.2.2.2))), (.r 0, some (.o 1 [[.d (.row .bor 3 (Rw (GFunc.cells .bor) x.1))]])), (.r 64, some (.o 2 [[V.int x.2.1.a, V.int x.2.1.b]]))]) (fun x => Yes (some (x)) o3) ?_ ?_
    rotate_left
    rintro ⟨b1, b2, b3, b4, b5⟩ h
    obtain rfl := h.get
    have h := hK3
    (try (simp only [Sum.elim_inl, Sum.elim_inr] at h))
    refine sw_gh ?_
    refine gh_sw ?_
    skip)
 | (with_reducible refine here_meet (N0 := 30000000) ?_
    skip
    refine meet_to (_, _, _, _, _) (by decide) ?_ h ?_
    · exact (by simp [slNL, C.inN, V.inN, V.inNs, V.inNss, inNss_dd, inNs_map_d])
    · simp only [SubL, putSt, lk, lkb, reduceCtorEq, Nat.reduceEqDiff, List.length_set, List.length_replicate]; repeat' (first | apply And.intro | rfl | trivial | (simp only [*]; done)))
 | (with_reducible refine here_join (a := (.seq (.region 6 _ _) _)) (b := (.cond (.tmp 15) _ _)) ?_
    skip
    revert h
    with_reducible refine bind_elimY ?_
    intro o2 h hK2
    unfold impl_InsRight.a2 at h
    refine sw_join (ι := (List GFunc) × GI2 × Int × Int × Bool) 20000000 (fun x : (List GFunc) × GI2 × Int × Int × Bool => [(.s 1, some (.v (V.int x.2.2.1))), (.s 3, some (.v (.mp 0 1 0 0))), (.s 5, some (.v (.mp 64 2 0 0))), (.s 12, some (.v (V.int x.2.2.2.1))), (.s 15, some (.v (V.bool x.2.2.2.2))), (.r 0, some (.o 1 [[.d (.row .bor 3 (Rw (GFunc.cells .bor) x.1))]])), (.r 64, some (.o 2 [[V.int x.2.1.a, V.int x.2.1.b]]))]) (fun x => Yes (some (x)) o2) ?_ ?_
    rotate_left
    rintro ⟨b1, b2, b3, b4, b5⟩ h
    obtain rfl := h.get
    have h := hK2
    (try (simp only [Sum.elim_inl, Sum.elim_inr] at h))
    refine sw_gh ?_
    refine gh_sw ?_
    skip)
 | (with_reducible refine here_meet (N0 := 20000000) ?_
    skip
    refine meet_to (_, _, _, _, _) (by decide) ?_ h ?_
    · exact (by simp [slNL, C.inN, V.inN, V.inNs, V.inNss, inNss_dd, inNs_map_d])
    · simp only [SubL, putSt, lk, lkb, reduceCtorEq, Nat.reduceEqDiff, List.length_set, List.length_replicate]; repeat' (first | apply And.intro | rfl | trivial | (simp only [*]; done)))
 | (with_reducible refine here_join (a := (.seq (.region 3 _ _) _)) (b := (.seq (.region 14 _ _) _)) ?_
    skip
    revert h
    with_reducible refine bind_elimY ?_
    intro o1 h hK1
    unfold impl_InsRight.a1 at h
    refine sw_join (ι := GI2) 10000000 (fun x : GI2 => [(.s 5, some (.v (.mp 64 2 0 0))), (.r 64, some (.o 2 [[V.int x.a, V.int x.b]]))]) (fun x => Yes (some (.inr x)) o1) ?_ ?_
    rotate_left
    rintro b1 h
    obtain rfl := h.get
    have h := hK1
    (try (simp only [Sum.elim_inl, Sum.elim_inr] at h))
    refine sw_gh ?_
    refine gh_sw ?_
    skip)
 | (with_reducible refine here_meet (N0 := 10000000) ?_
    skip
    refine meet_to (_) (by decide) ?_ h ?_
    · exact (by simp [slNL, C.inN, V.inN, V.inNs, V.inNss, inNss_dd, inNs_map_d])
    · simp only [SubL, putSt, lk, lkb, reduceCtorEq, Nat.reduceEqDiff, List.length_set, List.length_replicate]; repeat' (first | apply And.intro | rfl | trivial | (simp only [*]; done)))
 | with_reducible refine sw_seq ?_
 | with_reducible refine seqQ_ret ?_
 | with_reducible refine seqQ_exit ?_
 | ((with_reducible refine wp_ite ?_ ?_)
    all_goals (intro hc; (try (simp only [Bool.not_eq_true, Bool.not_eq_false] at hc)); simp only [hc]))
 | (with_reducible apply regW_skip
    · simp only [dstOk, Nat.reduceLT]
    · rfl
    · simp only [putSt, lk, lkb, reduceCtorEq, Nat.reduceEqDiff]; done)
 | (with_reducible apply regW_yesN
    · simp only [dstOk, Nat.reduceLT]
    · rfl
    · simp only [putSt, lk, lkb, reduceCtorEq, Nat.reduceEqDiff]; done)
 | (with_reducible apply regW_no
    · simp only [dstOk, Nat.reduceLT]
    · rfl
    · simp only [putSt, lk, lkb, reduceCtorEq, Nat.reduceEqDiff, Bool.not_true, Bool.not_false]; done)
 | (with_reducible apply regW_guardN
    · simp only [dstOk, Nat.reduceLT]
    · rfl
    · simp only [putSt, lk, lkb, reduceCtorEq, Nat.reduceEqDiff]; rfl
    all_goals (intro hc; (try (simp only [Bool.not_true, Bool.not_false] at hc))))
 | (with_reducible apply sw_cond
    · simp only [putSt, lk, lkb, reduceCtorEq, Nat.reduceEqDiff]; rfl
    all_goals (intro hc; try (cases hc; done)))
 | ((first
     | ((with_reducible refine gh_ret ?_)
        revert h
        with_reducible refine some_elim ?_
        rintro rfl)
     | (with_reducible refine here_call ?_
        revert h
        with_reducible refine bind_elim ?_
        intro t ht h
        (first
          | (refine call_dataE (c_impl_hasFunc ht) ?_ rfl ?_
             · first | rfl | (simp; done))
          | (refine call_dataE (c_impl_OpName ht) ?_ rfl ?_
             · first | rfl | (simp; done))))
     | (with_reducible apply regD_opK
        · simp only [dstOk, Nat.reduceLT]
        · simp only [Nat.reduceAdd]; rfl
        intro k hk)
     | (with_reducible apply regW_opK
        · simp only [dstOk, Nat.reduceLT]
        · simp only [Nat.reduceAdd]; rfl
        intro k hk)
     | skip)
    simp only [RetW, bn, lkb, evb, opC, opP, fetchN, fetchP, fetchAll, fetchO, Prog.bind, Prog.wp, Prog.wp_bind, lk, nameP, nameAll, Value.oneCell', putSt, stepP, putP, reduceCtorEq, V.lin, V.linL, D.lin, isNil, binP, unP, BinOp.isShift, Prog.ofO, Nat.reduceAdd, Nat.reduceMul, Nat.reduceSub, Nat.reduceLT, Nat.reduceLeDiff, Nat.reduceEqDiff, ite_true, ite_false, fieldAddrP, fieldP, indexAddrP, loadP, storeP, boxP, allocP, cellsP, asVal, setSeg, outP, outT, cntT, TyK.field, TyK.agg, zeroRow, V.ren, V.renL, forall_eq_or_imp, forall_const, minmaxP, lenP, lenOf, lenStr, V.asInt, decide_true, decide_false, sliceP, boundP, makeSliceP, convertP, appendP, rowsOfP, ontoP, sizeFits, V.rowSize, TyK.src, resV, resV.go, resV.gol, retP, retOne, retAll, resTo, objsAre, Option.map_eq_map, Function.const_apply, Int.reduceNeg, Int.reduceToNat, ty2, ty4, ty9, ty28, ty30, ty63, ty65, ty107, GFunc.cells, GI2.cells, GProgram.cells, cI, cB, cS, cL, GI2_e, GFunc_e, GProgram_e, *]
    try (refine hk.use _ _ _ _ ?_; clear hk k))
 | fail)
  all_goals (try rfl)
  all_goals (try (simp; done))
  all_goals (try (simp_all; done))
def impl_isBinary (p0 : Int) : Option (Bool) :=
  (impl_in p0 10 23).bind fun t1 => some t1
theorem c_impl_isBinary {p0 : Int} {r : Bool} (h : impl_isBinary p0 = some r) : Con Try.prog 128 [V.int p0] [] (V.bool r) [] := by
  refine con_of_sw Try.func128 rfl Try.call128 (by simp [Try.ntmps128]) (by simp [V.inNs, V.inN]) (by simp [C.inN, V.inNss, V.inNs, V.inN, inNss_dd]) (by simp [V.inNs, V.inN]) (by simp [C.inN, V.inNss, V.inNs, V.inN, inNss_dd]) rfl ?_
  rw [Try.ntmps128, Try.results128]
  unfold impl_isBinary at h
  replace h := Yes.mk h
  simp only [entryS, entryO, Nat.reduceAdd, List.length_nil, List.length_cons]
  repeat' (first
 | (with_reducible (first | refine sw_reg ?_ | refine sw_ret ?_ | refine sw_skip ?_ | refine sw_block ?_ | refine sw_exit ?_ | refine seqQ_normal ?_ | refine blockQ_normal ?_ | refine blockQ_ret ?_ | refine blockQ_this ?_ | refine blockQ_other (by decide) ?_ | refine regW_nil ?_ | refine sw_draw mixed ?_ | refine retQ_ret ?_ | refine retQ_normal ?_))
 | (with_reducible refine regD_nil ?_
    refine ⟨by kernel_rfl, ?_⟩)
 | (revert h; (first | ((with_reducible refine idx_elim ?_); intro m hm1 hm2 hm3 h; (try (simp only [Int.reduceToNat] at hm3)); (try (revert hm3; (with_reducible apply same_elim); (focus (with_reducible assumption)); rintro rfl)); (try (simp only [List.length_set, List.length_cons, List.length_nil, List.length_replicate, Nat.reduceAdd, Int.cast_ofNat_Int, Nat.zero_add, List.length_append] at hm2))) | (with_reducible refine sidx_elim ?_; intro m hm1 hm3 h) | (with_reducible refine gd_elim ?_; intro hg h; try (have hg2 := hg.2; have hg := hg.1; (try (simp only [Nat.reduceLeDiff] at hg2)); (try (revert hg2; (with_reducible refine toNat_elim hg ?_); intro hg2 hg4)); try (have hg3 := hg2.2; have hg2 := hg2.1; (try (simp only [Nat.reduceLeDiff] at hg3))))) | (with_reducible refine condt_elim ?_ ?_; (focus (with_reducible assumption)); intro h) | (with_reducible refine condf_elim ?_ ?_; (focus (with_reducible assumption)); intro h)))
 | with_reducible refine sw_seq ?_
 | with_reducible refine seqQ_ret ?_
 | with_reducible refine seqQ_exit ?_
 | ((with_reducible refine wp_ite ?_ ?_)
    all_goals (intro hc; (try (simp only [Bool.not_eq_true, Bool.not_eq_false] at hc)); simp only [hc]))
 | (with_reducible apply regW_skip
    · simp only [dstOk, Nat.reduceLT]
    · rfl
    · simp only [putSt, lk, lkb, reduceCtorEq, Nat.reduceEqDiff]; done)
 | (with_reducible apply regW_yesN
    · simp only [dstOk, Nat.reduceLT]
    · rfl
    · simp only [putSt, lk, lkb, reduceCtorEq, Nat.reduceEqDiff]; done)
 | (with_reducible apply regW_no
    · simp only [dstOk, Nat.reduceLT]
    · rfl
    · simp only [putSt, lk, lkb, reduceCtorEq, Nat.reduceEqDiff, Bool.not_true, Bool.not_false]; done)
 | (with_reducible apply regW_guardN
    · simp only [dstOk, Nat.reduceLT]
    · rfl
    · simp only [putSt, lk, lkb, reduceCtorEq, Nat.reduceEqDiff]; rfl
    all_goals (intro hc; (try (simp only [Bool.not_true, Bool.not_false] at hc))))
 | (with_reducible apply sw_cond
    · simp only [putSt, lk, lkb, reduceCtorEq, Nat.reduceEqDiff]; rfl
    all_goals (intro hc; try (cases hc; done)))
 | ((first
     | ((with_reducible refine gh_ret ?_)
        revert h
        with_reducible refine some_elim ?_
        rintro rfl)
     | (with_reducible refine here_call ?_
        revert h
        with_reducible refine bind_elim ?_
        intro t ht h
        (first
          | (refine call_dataE (c_impl_in ht) ?_ rfl ?_
             · first | rfl | (simp; done))))
     | (with_reducible apply regD_opK
        · simp only [dstOk, Nat.reduceLT]
        · simp only [Nat.reduceAdd]; rfl
        intro k hk)
     | (with_reducible apply regW_opK
        · simp only [dstOk, Nat.reduceLT]
        · simp only [Nat.reduceAdd]; rfl
        intro k hk)
     | skip)
    simp only [RetW, bn, lkb, evb, opC, opP, fetchN, fetchP, fetchAll, fetchO, Prog.bind, Prog.wp, Prog.wp_bind, lk, nameP, nameAll, Value.oneCell', putSt, stepP, putP, reduceCtorEq, V.lin, V.linL, D.lin, isNil, binP, unP, BinOp.isShift, Prog.ofO, Nat.reduceAdd, Nat.reduceMul, Nat.reduceSub, Nat.reduceLT, Nat.reduceLeDiff, Nat.reduceEqDiff, ite_true, ite_false, fieldAddrP, fieldP, indexAddrP, loadP, storeP, boxP, allocP, cellsP, asVal, setSeg, outP, outT, cntT, TyK.field, TyK.agg, zeroRow, V.ren, V.renL, forall_eq_or_imp, forall_const, minmaxP, lenP, lenOf, lenStr, V.asInt, decide_true, decide_false, sliceP, boundP, makeSliceP, convertP, appendP, rowsOfP, ontoP, sizeFits, V.rowSize, TyK.src, resV, resV.go, resV.gol, retP, retOne, retAll, resTo, objsAre, Option.map_eq_map, Function.const_apply, Int.reduceNeg, Int.reduceToNat, ty2, ty4, cI, cB, cS, cL, *]
    try (refine hk.use _ _ _ _ ?_; clear hk k))
 | fail)
  all_goals (try rfl)
  all_goals (try (simp; done))
  all_goals (try (simp_all; done))
def impl_isUnary (p0 : Int) : Option (Bool) :=
  (impl_in p0 24 29).bind fun t1 => some t1
theorem c_impl_isUnary {p0 : Int} {r : Bool} (h : impl_isUnary p0 = some r) : Con Try.prog 129 [V.int p0] [] (V.bool r) [] := by
  refine con_of_sw Try.func129 rfl Try.call129 (by simp [Try.ntmps129]) (by simp [V.inNs, V.inN]) (by simp [C.inN, V.inNss, V.inNs, V.inN, inNss_dd]) (by simp [V.inNs, V.inN]) (by simp [C.inN, V.inNss, V.inNs, V.inN, inNss_dd]) rfl ?_
  rw [Try.ntmps129, Try.results129]
  unfold impl_isUnary at h
  replace h := Yes.mk h
  simp only [entryS, entryO, Nat.reduceAdd, List.length_nil, List.length_cons]
  repeat' (first
 | (with_reducible (first | refine sw_reg ?_ | refine sw_ret ?_ | refine sw_skip ?_ | refine sw_block ?_ | refine sw_exit ?_ | refine seqQ_normal ?_ | refine blockQ_normal ?_ | refine blockQ_ret ?_ | refine blockQ_this ?_ | refine blockQ_other (by decide) ?_ | refine regW_nil ?_ | refine sw_draw mixed ?_ | refine retQ_ret ?_ | refine retQ_normal ?_))
 | (with_reducible refine regD_nil ?_
    refine ⟨by kernel_rfl, ?_⟩)
 | (revert h; (first | ((with_reducible refine idx_elim ?_); intro m hm1 hm2 hm3 h; (try (simp only [Int.reduceToNat] at hm3)); (try (revert hm3; (with_reducible apply same_elim); (focus (with_reducible assumption)); rintro rfl)); (try (simp only [List.length_set, List.length_cons, List.length_nil, List.length_replicate, Nat.reduceAdd, Int.cast_ofNat_Int, Nat.zero_add, List.length_append] at hm2))) | (with_reducible refine sidx_elim ?_; intro m hm1 hm3 h) | (with_reducible refine gd_elim ?_; intro hg h; try (have hg2 := hg.2; have hg := hg.1; (try (simp only [Nat.reduceLeDiff] at hg2)); (try (revert hg2; (with_reducible refine toNat_elim hg ?_); intro hg2 hg4)); try (have hg3 := hg2.2; have hg2 := hg2.1; (try (simp only [Nat.reduceLeDiff] at hg3))))) | (with_reducible refine condt_elim ?_ ?_; (focus (with_reducible assumption)); intro h) | (with_reducible refine condf_elim ?_ ?_; (focus (with_reducible assumption)); intro h)))
 | with_reducible refine sw_seq ?_
 | with_reducible refine seqQ_ret ?_
 | with_reducible refine seqQ_exit ?_
 | ((with_reducible refine wp_ite ?_ ?_)
    all_goals (intro hc; (try (simp only [Bool.not_eq_true, Bool.not_eq_false] at hc)); simp only [hc]))
 | (with_reducible apply regW_skip
    · simp only [dstOk, Nat.reduceLT]
    · rfl
    · simp only [putSt, lk, lkb, reduceCtorEq, Nat.reduceEqDiff]; done)
 | (with_reducible apply regW_yesN
    · simp only [dstOk, Nat.reduceLT]
    · rfl
    · simp only [putSt, lk, lkb, reduceCtorEq, Nat.reduceEqDiff]; done)
 | (with_reducible apply regW_no
    · simp only [dstOk, Nat.reduceLT]
    · rfl
    · simp only [putSt, lk, lkb, reduceCtorEq, Nat.reduceEqDiff, Bool.not_true, Bool.not_false]; done)
 | (with_reducible apply regW_guardN
    · simp only [dstOk, Nat.reduceLT]
    · rfl
    · simp only [putSt, lk, lkb, reduceCtorEq, Nat.reduceEqDiff]; rfl
    all_goals (intro hc; (try (simp only [Bool.not_true, Bool.not_false] at hc))))
 | (with_reducible apply sw_cond
    · simp only [putSt, lk, lkb, reduceCtorEq, Nat.reduceEqDiff]; rfl
    all_goals (intro hc; try (cases hc; done)))
 | ((first
     | ((with_reducible refine gh_ret ?_)
        revert h
        with_reducible refine some_elim ?_
        rintro rfl)
     | (with_reducible refine here_call ?_
        revert h
        with_reducible refine bind_elim ?_
        intro t ht h
        (first
          | (refine call_dataE (c_impl_in ht) ?_ rfl ?_
             · first | rfl | (simp; done))))
     | (with_reducible apply regD_opK
        · simp only [dstOk, Nat.reduceLT]
        · simp only [Nat.reduceAdd]; rfl
        intro k hk)
     | (with_reducible apply regW_opK
        · simp only [dstOk, Nat.reduceLT]
        · simp only [Nat.reduceAdd]; rfl
        intro k hk)
     | skip)
    simp only [RetW, bn, lkb, evb, opC, opP, fetchN, fetchP, fetchAll, fetchO, Prog.bind, Prog.wp, Prog.wp_bind, lk, nameP, nameAll, Value.oneCell', putSt, stepP, putP, reduceCtorEq, V.lin, V.linL, D.lin, isNil, binP, unP, BinOp.isShift, Prog.ofO, Nat.reduceAdd, Nat.reduceMul, Nat.reduceSub, Nat.reduceLT, Nat.reduceLeDiff, Nat.reduceEqDiff, ite_true, ite_false, fieldAddrP, fieldP, indexAddrP, loadP, storeP, boxP, allocP, cellsP, asVal, setSeg, outP, outT, cntT, TyK.field, TyK.agg, zeroRow, V.ren, V.renL, forall_eq_or_imp, forall_const, minmaxP, lenP, lenOf, lenStr, V.asInt, decide_true, decide_false, sliceP, boundP, makeSliceP, convertP, appendP, rowsOfP, ontoP, sizeFits, V.rowSize, TyK.src, resV, resV.go, resV.gol, retP, retOne, retAll, resTo, objsAre, Option.map_eq_map, Function.const_apply, Int.reduceNeg, Int.reduceToNat, ty2, ty4, cI, cB, cS, cL, *]
    try (refine hk.use _ _ _ _ ?_; clear hk k))
 | fail)
  all_goals (try rfl)
  all_goals (try (simp; done))
  all_goals (try (simp_all; done))
def impl_Takes.a2 (k : Nat) (a1 : (List GFunc)) (a2 : GI2) : Option ((List GFunc) × GI2 × Bool) :=
  (impl_isBinary a2.a).bind fun t1 => cond t1 (some (a1, a2, true)) (some (a1, a2, (a2.a == 35)))
def impl_Takes.a1 (k : Nat) (a1 : (List GFunc)) (a2 : GI2) : Option ((Int) ⊕ (GI2)) :=
  (impl_Takes.a2 k a1 a2).bind fun o2 => cond o2.2.2 (some (.inl (2))) (cond ((o2.2.1.a == 36)) (some (.inl (3))) (cond ((o2.2.1.a == 32)) ((impl_hasFunc ((⟨o2.1⟩ : GProgram)) o2.2.1.b).bind fun t2 => cond t2 ((idx o2.1 o2.2.1.b).bind fun m3 => some (.inl (m3.args))) (some (.inl (0)))) ((impl_isUnary o2.2.1.a).bind fun t4 => cond t4 (some (.inl (1))) (some (.inr (o2.2.1))))))
def impl_Takes (k : Nat) (p0 : GProgram) (p1 : GI2) : Option (Int) :=
  (impl_Takes.a1 k p0.funcs p1).bind fun o1 => Sum.elim (fun o1l => some o1l) (fun o1r => cond ((o1r.a == 3)) (some 1) (cond ((o1r.a == 4)) (some 1) (cond ((o1r.a == 5)) (some 1) (cond ((o1r.a == 31)) (some 1) (cond ((o1r.a == 33)) (some 1) (cond ((o1r.a == 34)) (some 1) (cond ((o1r.a == 37)) (some 1) (cond ((o1r.a == 38)) (some 1) (some 0))))))))) o1
theorem c_impl_Takes {k : Nat} {p0 : GProgram} {p1 : GI2} {r : Int} (h : impl_Takes k p0 p1 = some r) : Con Try.prog 121 [.agg [.d (.row .bor 3 (Rw (GFunc.cells .bor) p0.funcs))], .agg [V.int p1.a, V.int p1.b]] [] (V.int r) [] := by
  refine con_of_sw Try.func121 rfl Try.call121 (by simp [Try.ntmps121]) (by simp [V.inNs, V.inN]) (by simp [C.inN, V.inNss, V.inNs, V.inN, inNss_dd]) (by simp [V.inNs, V.inN]) (by simp [C.inN, V.inNss, V.inNs, V.inN, inNss_dd]) rfl ?_
  rw [Try.ntmps121, Try.results121]
  unfold impl_Takes at h
  replace h := Yes.mk h
  simp only [entryS, entryO, Nat.reduceAdd, List.length_nil, List.length_cons]
  repeat' (first
 | (with_reducible (first | refine sw_reg ?_ | refine sw_ret ?_ | refine sw_skip ?_ | refine sw_block ?_ | refine sw_exit ?_ | refine seqQ_normal ?_ | refine blockQ_normal ?_ | refine blockQ_ret ?_ | refine blockQ_this ?_ | refine blockQ_other (by decide) ?_ | refine regW_nil ?_ | refine sw_draw mixed ?_ | refine retQ_ret ?_ | refine retQ_normal ?_))
 | (with_reducible refine regD_nil ?_
    refine ⟨by kernel_rfl, ?_⟩)
 | (revert h; (first | ((with_reducible refine idx_elim ?_); intro m hm1 hm2 hm3 h; (try (simp only [Int.reduceToNat] at hm3)); (try (revert hm3; (with_reducible apply same_elim); (focus (with_reducible assumption)); rintro rfl)); (try (simp only [List.length_set, List.length_cons, List.length_nil, List.length_replicate, Nat.reduceAdd, Int.cast_ofNat_Int, Nat.zero_add, List.length_append] at hm2))) | (with_reducible refine sidx_elim ?_; intro m hm1 hm3 h) | (with_reducible refine gd_elim ?_; intro hg h; try (have hg2 := hg.2; have hg := hg.1; (try (simp only [Nat.reduceLeDiff] at hg2)); (try (revert hg2; (with_reducible refine toNat_elim hg ?_); intro hg2 hg4)); try (have hg3 := hg2.2; have hg2 := hg2.1; (try (simp only [Nat.reduceLeDiff] at hg3))))) | (with_reducible refine condt_elim ?_ ?_; (focus (with_reducible assumption)); intro h) | (with_reducible refine condf_elim ?_ ?_; (focus (with_reducible assumption)); intro h)))
 | ((first | with_reducible refine seqQ_ret (K := (fun st1 n1 => Gh st1 n1 (MeetA _ 20000000 _ _))) ?_ | with_reducible refine seqQ_exit (K := (fun st1 n1 => Gh st1 n1 (MeetA _ 20000000 _ _))) ?_)
    obtain rfl := h.get
    have h := hK2
    (try (simp only [Sum.elim_inl, Sum.elim_inr] at h)))
 | ((first | with_reducible refine seqQ_ret (K := (fun st1 n1 => Gh st1 n1 (MeetA _ 10000000 _ _))) ?_ | with_reducible refine seqQ_exit (K := (fun st1 n1 => Gh st1 n1 (MeetA _ 10000000 _ _))) ?_)
    obtain rfl := h.get
    have h := hK1
    (try (simp only [Sum.elim_inl, Sum.elim_inr] at h)))
 | (with_reducible refine here_join (a := (.seq (.region 1 _ _) _)) (b := (.cond (.tmp 5) _ _)) ?_
    skip
    revert h
    with_reducible refine bind_elimY ?_
    intro o2 h hK2
    unfold impl_Takes.a2 at h
    refine sw_join (ι := (List GFunc) × GI2 × Bool) 20000000 (fun x : (List GFunc) × GI2 × Bool => [(.s 2, some (.v (.mp 0 1 0 0))), (.s 3, some (.v (.mp 64 2 0 0))), (.s 5, some (.v (V.bool x.2.2))), (.r 0, some (.o 1 [[.d (.row .bor 3 (Rw (GFunc.cells .bor) x.1))]])), (.r 64, some (.o 2 [[V.int x.2.1.a, V.int x.2.1.b]]))]) (fun x => Yes (some (x)) o2) ?_ ?_
    rotate_left
    rintro ⟨b1, b2, b3⟩ h
    obtain rfl := h.get
    have h := hK2
    (try (simp only [Sum.elim_inl, Sum.elim_inr] at h))
    refine sw_gh ?_
    refine gh_sw ?_
    skip)
 | (with_reducible refine here_meet (N0 := 20000000) ?_
    skip
    refine meet_to (_, _, _) (by decide) ?_ h ?_
    · exact (by simp [slNL, C.inN, V.inN, V.inNs, V.inNss, inNss_dd, inNs_map_d])
    · simp only [SubL, putSt, lk, lkb, reduceCtorEq, Nat.reduceEqDiff, List.length_set, List.length_replicate]; repeat' (first | apply And.intro | rfl | trivial | (simp only [*]; done)))
 | (with_reducible refine here_join (a := (.block 0 _)) (b := (.seq (.seq (.region 12 _ _) _) _)) ?_
    skip
    revert h
    with_reducible refine bind_elimY ?_
    intro o1 h hK1
    unfold impl_Takes.a1 at h
    refine sw_join (ι := GI2) 10000000 (fun x : GI2 => [(.s 3, some (.v (.mp 64 2 0 0))), (.r 64, some (.o 2 [[V.int x.a, V.int x.b]]))]) (fun x => Yes (some (.inr x)) o1) ?_ ?_
    rotate_left
    rintro b1 h
    obtain rfl := h.get
    have h := hK1
    (try (simp only [Sum.elim_inl, Sum.elim_inr] at h))
    refine sw_gh ?_
    refine gh_sw ?_
    skip)
 | (with_reducible refine here_meet (N0 := 10000000) ?_
    skip
    refine meet_to (_) (by decide) ?_ h ?_
    · exact (by simp [slNL, C.inN, V.inN, V.inNs, V.inNss, inNss_dd, inNs_map_d])
    · simp only [SubL, putSt, lk, lkb, reduceCtorEq, Nat.reduceEqDiff, List.length_set, List.length_replicate]; repeat' (first | apply And.intro | rfl | trivial | (simp only [*]; done)))
 | with_reducible refine sw_seq ?_
 | with_reducible refine seqQ_ret ?_
 | with_reducible refine seqQ_exit ?_
 | ((with_reducible refine wp_ite ?_ ?_)
    all_goals (intro hc; (try (simp only [Bool.not_eq_true, Bool.not_eq_false] at hc)); simp only [hc]))
 | (with_reducible apply regW_skip
    · simp only [dstOk, Nat.reduceLT]
    · rfl
    · simp only [putSt, lk, lkb, reduceCtorEq, Nat.reduceEqDiff]; done)
 | (with_reducible apply regW_yesN
    · simp only [dstOk, Nat.reduceLT]
    · rfl
    · simp only [putSt, lk, lkb, reduceCtorEq, Nat.reduceEqDiff]; done)
 | (with_reducible apply regW_no
    · simp only [dstOk, Nat.reduceLT]
    · rfl
    · simp only [putSt, lk, lkb, reduceCtorEq, Nat.reduceEqDiff, Bool.not_true, Bool.not_false]; done)
 | (with_reducible apply regW_guardN
    · simp only [dstOk, Nat.reduceLT]
    · rfl
    · simp only [putSt, lk, lkb, reduceCtorEq, Nat.reduceEqDiff]; rfl
    all_goals (intro hc; (try (simp only [Bool.not_true, Bool.not_false] at hc))))
 | (with_reducible apply sw_cond
    · simp only [putSt, lk, lkb, reduceCtorEq, Nat.reduceEqDiff]; rfl
    all_goals (intro hc; try (cases hc; done)))
 | ((first
     | ((with_reducible refine gh_ret ?_)
        revert h
        with_reducible refine some_elim ?_
        rintro rfl)
     | (with_reducible refine here_call ?_
        revert h
        with_reducible refine bind_elim ?_
        intro t ht h
        (first
          | (refine call_dataE (c_impl_hasFunc ht) ?_ rfl ?_
             · first | rfl | (simp; done))
          | (refine call_dataE (c_impl_isBinary ht) ?_ rfl ?_
             · first | rfl | (simp; done))
          | (refine call_dataE (c_impl_isUnary ht) ?_ rfl ?_
             · first | rfl | (simp; done))))
     | (with_reducible apply regD_opK
        · simp only [dstOk, Nat.reduceLT]
        · simp only [Nat.reduceAdd]; rfl
        intro k hk)
     | (with_reducible apply regW_opK
        · simp only [dstOk, Nat.reduceLT]
        · simp only [Nat.reduceAdd]; rfl
        intro k hk)
     | skip)
    simp only [RetW, bn, lkb, evb, opC, opP, fetchN, fetchP, fetchAll, fetchO, Prog.bind, Prog.wp, Prog.wp_bind, lk, nameP, nameAll, Value.oneCell', putSt, stepP, putP, reduceCtorEq, V.lin, V.linL, D.lin, isNil, binP, unP, BinOp.isShift, Prog.ofO, Nat.reduceAdd, Nat.reduceMul, Nat.reduceSub, Nat.reduceLT, Nat.reduceLeDiff, Nat.reduceEqDiff, ite_true, ite_false, fieldAddrP, fieldP, indexAddrP, loadP, storeP, boxP, allocP, cellsP, asVal, setSeg, outP, outT, cntT, TyK.field, TyK.agg, zeroRow, V.ren, V.renL, forall_eq_or_imp, forall_const, minmaxP, lenP, lenOf, lenStr, V.asInt, decide_true, decide_false, sliceP, boundP, makeSliceP, convertP, appendP, rowsOfP, ontoP, sizeFits, V.rowSize, TyK.src, resV, resV.go, resV.gol, retP, retOne, retAll, resTo, objsAre, Option.map_eq_map, Function.const_apply, Int.reduceNeg, Int.reduceToNat, ty2, ty28, ty30, ty63, ty65, ty107, GFunc.cells, GI2.cells, GProgram.cells, cI, cB, cS, cL, GI2_e, GFunc_e, GProgram_e, *]
    try (refine hk.use _ _ _ _ ?_; clear hk k))
 | fail)
  all_goals (try rfl)
  all_goals (try (simp; done))
  all_goals (try (simp_all; done))
def impl_isArith (p0 : Int) : Option (Bool) :=
  (impl_in p0 10 29).bind fun t1 => some t1
theorem c_impl_isArith {p0 : Int} {r : Bool} (h : impl_isArith p0 = some r) : Con Try.prog 130 [V.int p0] [] (V.bool r) [] := by
  refine con_of_sw Try.func130 rfl Try.call130 (by simp [Try.ntmps130]) (by simp [V.inNs, V.inN]) (by simp [C.inN, V.inNss, V.inNs, V.inN, inNss_dd]) (by simp [V.inNs, V.inN]) (by simp [C.inN, V.inNss, V.inNs, V.inN, inNss_dd]) rfl ?_
  rw [Try.ntmps130, Try.results130]
  unfold impl_isArith at h
  replace h := Yes.mk h
  simp only [entryS, entryO, Nat.reduceAdd, List.length_nil, List.length_cons]
  repeat' (first
 | (with_reducible (first | refine sw_reg ?_ | refine sw_ret ?_ | refine sw_skip ?_ | refine sw_block ?_ | refine sw_exit ?_ | refine seqQ_normal ?_ | refine blockQ_normal ?_ | refine blockQ_ret ?_ | refine blockQ_this ?_ | refine blockQ_other (by decide) ?_ | refine regW_nil ?_ | refine sw_draw mixed ?_ | refine retQ_ret ?_ | refine retQ_normal ?_))
 | (with_reducible refine regD_nil ?_
    refine ⟨by kernel_rfl, ?_⟩)
 | (revert h; (first | ((with_reducible refine idx_elim ?_); intro m hm1 hm2 hm3 h; (try (simp only [Int.reduceToNat] at hm3)); (try (revert hm3; (with_reducible apply same_elim); (focus (with_reducible assumption)); rintro rfl)); (try (simp only [List.length_set, List.length_cons, List.length_nil, List.length_replicate, Nat.reduceAdd, Int.cast_ofNat_Int, Nat.zero_add, List.length_append] at hm2))) | (with_reducible refine sidx_elim ?_; intro m hm1 hm3 h) | (with_reducible refine gd_elim ?_; intro hg h; try (have hg2 := hg.2; have hg := hg.1; (try (simp only [Nat.reduceLeDiff] at hg2)); (try (revert hg2; (with_reducible refine toNat_elim hg ?_); intro hg2 hg4)); try (have hg3 := hg2.2; have hg2 := hg2.1; (try (simp only [Nat.reduceLeDiff] at hg3))))) | (with_reducible refine condt_elim ?_ ?_; (focus (with_reducible assumption)); intro h) | (with_reducible refine condf_elim ?_ ?_; (focus (with_reducible assumption)); intro h)))
 | with_reducible refine sw_seq ?_
 | with_reducible refine seqQ_ret ?_
 | with_reducible refine seqQ_exit ?_
 | ((with_reducible refine wp_ite ?_ ?_)
    all_goals (intro hc; (try (simp only [Bool.not_eq_true, Bool.not_eq_false] at hc)); simp only [hc]))
 | (with_reducible apply regW_skip
    · simp only [dstOk, Nat.reduceLT]
    · rfl
    · simp only [putSt, lk, lkb, reduceCtorEq, Nat.reduceEqDiff]; done)
 | (with_reducible apply regW_yesN
    · simp only [dstOk, Nat.reduceLT]
    · rfl
    · simp only [putSt, lk, lkb, reduceCtorEq, Nat.reduceEqDiff]; done)
 | (with_reducible apply regW_no
    · simp only [dstOk, Nat.reduceLT]
    · rfl
    · simp only [putSt, lk, lkb, reduceCtorEq, Nat.reduceEqDiff, Bool.not_true, Bool.not_false]; done)
 | (with_reducible apply regW_guardN
    · simp only [dstOk, Nat.reduceLT]
    · rfl
    · simp only [putSt, lk, lkb, reduceCtorEq, Nat.reduceEqDiff]; rfl
    all_goals (intro hc; (try (simp only [Bool.not_true, Bool.not_false] at hc))))
 | (with_reducible apply sw_cond
    · simp only [putSt, lk, lkb, reduceCtorEq, Nat.reduceEqDiff]; rfl
    all_goals (intro hc; try (cases hc; done)))
 | ((first
     | ((with_reducible refine gh_ret ?_)
        revert h
        with_reducible refine some_elim ?_
        rintro rfl)
     | (with_reducible refine here_call ?_
        revert h
        with_reducible refine bind_elim ?_
        intro t ht h
        (first
          | (refine call_dataE (c_impl_in ht) ?_ rfl ?_
             · first | rfl | (simp; done))))
     | (with_reducible apply regD_opK
        · simp only [dstOk, Nat.reduceLT]
        · simp only [Nat.reduceAdd]; rfl
        intro k hk)
     | (with_reducible apply regW_opK
        · simp only [dstOk, Nat.reduceLT]
        · simp only [Nat.reduceAdd]; rfl
        intro k hk)
     | skip)
    simp only [RetW, bn, lkb, evb, opC, opP, fetchN, fetchP, fetchAll, fetchO, Prog.bind, Prog.wp, Prog.wp_bind, lk, nameP, nameAll, Value.oneCell', putSt, stepP, putP, reduceCtorEq, V.lin, V.linL, D.lin, isNil, binP, unP, BinOp.isShift, Prog.ofO, Nat.reduceAdd, Nat.reduceMul, Nat.reduceSub, Nat.reduceLT, Nat.reduceLeDiff, Nat.reduceEqDiff, ite_true, ite_false, fieldAddrP, fieldP, indexAddrP, loadP, storeP, boxP, allocP, cellsP, asVal, setSeg, outP, outT, cntT, TyK.field, TyK.agg, zeroRow, V.ren, V.renL, forall_eq_or_imp, forall_const, minmaxP, lenP, lenOf, lenStr, V.asInt, decide_true, decide_false, sliceP, boundP, makeSliceP, convertP, appendP, rowsOfP, ontoP, sizeFits, V.rowSize, TyK.src, resV, resV.go, resV.gol, retP, retOne, retAll, resTo, objsAre, Option.map_eq_map, Function.const_apply, Int.reduceNeg, Int.reduceToNat, ty2, ty4, cI, cB, cS, cL, *]
    try (refine hk.use _ _ _ _ ?_; clear hk k))
 | fail)
  all_goals (try rfl)
  all_goals (try (simp; done))
  all_goals (try (simp_all; done))
def impl_Puts (p0 : GI2) : Option (Int) :=
  cond ((p0.a == 4)) (some 2) (cond ((p0.a == 1)) (some 1) (cond ((p0.a == 2)) (some 1) (cond ((p0.a == 32)) (some 1) (cond ((p0.a == 34)) (some 1) (cond ((p0.a == 35)) (some 1) (cond ((p0.a == 37)) (some 1) ((impl_isArith p0.a).bind fun t1 => cond t1 (some 1) (some 0))))))))
theorem c_impl_Puts {p0 : GI2} {r : Int} (h : impl_Puts p0 = some r) : Con Try.prog 122 [.agg [V.int p0.a, V.int p0.b]] [] (V.int r) [] := by
  refine con_of_sw Try.func122 rfl Try.call122 (by simp [Try.ntmps122]) (by simp [V.inNs, V.inN]) (by simp [C.inN, V.inNss, V.inNs, V.inN, inNss_dd]) (by simp [V.inNs, V.inN]) (by simp [C.inN, V.inNss, V.inNs, V.inN, inNss_dd]) rfl ?_
  rw [Try.ntmps122, Try.results122]
  unfold impl_Puts at h
  replace h := Yes.mk h
  simp only [entryS, entryO, Nat.reduceAdd, List.length_nil, List.length_cons]
  repeat' (first
 | (with_reducible (first | refine sw_reg ?_ | refine sw_ret ?_ | refine sw_skip ?_ | refine sw_block ?_ | refine sw_exit ?_ | refine seqQ_normal ?_ | refine blockQ_normal ?_ | refine blockQ_ret ?_ | refine blockQ_this ?_ | refine blockQ_other (by decide) ?_ | refine regW_nil ?_ | refine sw_draw mixed ?_ | refine retQ_ret ?_ | refine retQ_normal ?_))
 | (with_reducible refine regD_nil ?_
    refine ⟨by kernel_rfl, ?_⟩)
 | (revert h; (first | ((with_reducible refine idx_elim ?_); intro m hm1 hm2 hm3 h; (try (simp only [Int.reduceToNat] at hm3)); (try (revert hm3; (with_reducible apply same_elim); (focus (with_reducible assumption)); rintro rfl)); (try (simp only [List.length_set, List.length_cons, List.length_nil, List.length_replicate, Nat.reduceAdd, Int.cast_ofNat_Int, Nat.zero_add, List.length_append] at hm2))) | (with_reducible refine sidx_elim ?_; intro m hm1 hm3 h) | (with_reducible refine gd_elim ?_; intro hg h; try (have hg2 := hg.2; have hg := hg.1; (try (simp only [Nat.reduceLeDiff] at hg2)); (try (revert hg2; (with_reducible refine toNat_elim hg ?_); intro hg2 hg4)); try (have hg3 := hg2.2; have hg2 := hg2.1; (try (simp only [Nat.reduceLeDiff] at hg3))))) | (with_reducible refine condt_elim ?_ ?_; (focus (with_reducible assumption)); intro h) | (with_reducible refine condf_elim ?_ ?_; (focus (with_reducible assumption)); intro h)))
 | with_reducible refine sw_seq ?_
 | with_reducible refine seqQ_ret ?_
 | with_reducible refine seqQ_exit ?_
 | ((with_reducible refine wp_ite ?_ ?_)
    all_goals (intro hc; (try (simp only [Bool.not_eq_true, Bool.not_eq_false] at hc)); simp only [hc]))
 | (with_reducible apply regW_skip
    · simp only [dstOk, Nat.reduceLT]
    · rfl
    · simp only [putSt, lk, lkb, reduceCtorEq, Nat.reduceEqDiff]; done)
 | (with_reducible apply regW_yesN
    · simp only [dstOk, Nat.reduceLT]
    · rfl
    · simp only [putSt, lk, lkb, reduceCtorEq, Nat.reduceEqDiff]; done)
 | (with_reducible apply regW_no
    · simp only [dstOk, Nat.reduceLT]
    · rfl
    · simp only [putSt, lk, lkb, reduceCtorEq, Nat.reduceEqDiff, Bool.not_true, Bool.not_false]; done)
 | (with_reducible apply regW_guardN
    · simp only [dstOk, Nat.reduceLT]
    · rfl
    · simp only [putSt, lk, lkb, reduceCtorEq, Nat.reduceEqDiff]; rfl
    all_goals (intro hc; (try (simp only [Bool.not_true, Bool.not_false] at hc))))
 | (with_reducible apply sw_cond
    · simp only [putSt, lk, lkb, reduceCtorEq, Nat.reduceEqDiff]; rfl
    all_goals (intro hc; try (cases hc; done)))
 | ((first
     | ((with_reducible refine gh_ret ?_)
        revert h
        with_reducible refine some_elim ?_
        rintro rfl)
     | (with_reducible refine here_call ?_
        revert h
        with_reducible refine bind_elim ?_
        intro t ht h
        (first
          | (refine call_dataE (c_impl_isArith ht) ?_ rfl ?_
             · first | rfl | (simp; done))))
     | (with_reducible apply regD_opK
        · simp only [dstOk, Nat.reduceLT]
        · simp only [Nat.reduceAdd]; rfl
        intro k hk)
     | (with_reducible apply regW_opK
        · simp only [dstOk, Nat.reduceLT]
        · simp only [Nat.reduceAdd]; rfl
        intro k hk)
     | skip)
    simp only [RetW, bn, lkb, evb, opC, opP, fetchN, fetchP, fetchAll, fetchO, Prog.bind, Prog.wp, Prog.wp_bind, lk, nameP, nameAll, Value.oneCell', putSt, stepP, putP, reduceCtorEq, V.lin, V.linL, D.lin, isNil, binP, unP, BinOp.isShift, Prog.ofO, Nat.reduceAdd, Nat.reduceMul, Nat.reduceSub, Nat.reduceLT, Nat.reduceLeDiff, Nat.reduceEqDiff, ite_true, ite_false, fieldAddrP, fieldP, indexAddrP, loadP, storeP, boxP, allocP, cellsP, asVal, setSeg, outP, outT, cntT, TyK.field, TyK.agg, zeroRow, V.ren, V.renL, forall_eq_or_imp, forall_const, minmaxP, lenP, lenOf, lenStr, V.asInt, decide_true, decide_false, sliceP, boundP, makeSliceP, convertP, appendP, rowsOfP, ontoP, sizeFits, V.rowSize, TyK.src, resV, resV.go, resV.gol, retP, retOne, retAll, resTo, objsAre, Option.map_eq_map, Function.const_apply, Int.reduceNeg, Int.reduceToNat, ty2, ty107, GI2.cells, cI, cB, cS, cL, GI2_e, *]
    try (refine hk.use _ _ _ _ ?_; clear hk k))
 | fail)
  all_goals (try rfl)
  all_goals (try (simp; done))
  all_goals (try (simp_all; done))
def impl_next (p0 : GI2) (p1 : Int) : Option ((List Int)) :=
  cond ((p0.a == 33)) (some []) (cond ((p0.a == 30)) (some ([p0.b])) (cond ((p0.a == 31)) (some ([(IntKind.i64.wrap (p1 + 1)), p0.b])) (some ([(IntKind.i64.wrap (p1 + 1))]))))
theorem c_impl_next {p0 : GI2} {p1 : Int} {r : (List Int)} (h : impl_next p0 p1 = some r) : Con Try.prog 73 [.agg [V.int p0.a, V.int p0.b], V.int p1] [] (.d (.row .own 1 (Rw (cI .i64) r))) [] := by
  refine con_of_sw Try.func73 rfl Try.call73 (by simp [Try.ntmps73]) (by simp [V.inNs, V.inN]) (by simp [C.inN, V.inNss, V.inNs, V.inN, inNss_dd]) (by simp [V.inNs, V.inN]) (by simp [C.inN, V.inNss, V.inNs, V.inN, inNss_dd]) rfl ?_
  rw [Try.ntmps73, Try.results73]
  unfold impl_next at h
  replace h := Yes.mk h
  simp only [entryS, entryO, Nat.reduceAdd, List.length_nil, List.length_cons]
  repeat' (first
 | (with_reducible (first | refine sw_reg ?_ | refine sw_ret ?_ | refine sw_skip ?_ | refine sw_block ?_ | refine sw_exit ?_ | refine seqQ_normal ?_ | refine blockQ_normal ?_ | refine blockQ_ret ?_ | refine blockQ_this ?_ | refine blockQ_other (by decide) ?_ | refine regW_nil ?_ | refine sw_draw mixed ?_ | refine retQ_ret ?_ | refine retQ_normal ?_))
 | (with_reducible refine regD_nil ?_
    refine ⟨by kernel_rfl, ?_⟩)
 | (revert h; (first | ((with_reducible refine idx_elim ?_); intro m hm1 hm2 hm3 h; (try (simp only [Int.reduceToNat] at hm3)); (try (revert hm3; (with_reducible apply same_elim); (focus (with_reducible assumption)); rintro rfl)); (try (simp only [List.length_set, List.length_cons, List.length_nil, List.length_replicate, Nat.reduceAdd, Int.cast_ofNat_Int, Nat.zero_add, List.length_append] at hm2))) | (with_reducible refine sidx_elim ?_; intro m hm1 hm3 h) | (with_reducible refine gd_elim ?_; intro hg h; try (have hg2 := hg.2; have hg := hg.1; (try (simp only [Nat.reduceLeDiff] at hg2)); (try (revert hg2; (with_reducible refine toNat_elim hg ?_); intro hg2 hg4)); try (have hg3 := hg2.2; have hg2 := hg2.1; (try (simp only [Nat.reduceLeDiff] at hg3))))) | (with_reducible refine condt_elim ?_ ?_; (focus (with_reducible assumption)); intro h) | (with_reducible refine condf_elim ?_ ?_; (focus (with_reducible assumption)); intro h)))
 | with_reducible refine sw_seq ?_
 | with_reducible refine seqQ_ret ?_
 | with_reducible refine seqQ_exit ?_
 | (with_reducible refine gh_nilRow 4 .own 1 ?_ ?_
    · simp only [putSt, lk, lkb, reduceCtorEq, Nat.reduceEqDiff]; done
    skip)
 | ((with_reducible refine wp_ite ?_ ?_)
    all_goals (intro hc; (try (simp only [Bool.not_eq_true, Bool.not_eq_false] at hc)); simp only [hc]))
 | (with_reducible apply regW_skip
    · simp only [dstOk, Nat.reduceLT]
    · rfl
    · simp only [putSt, lk, lkb, reduceCtorEq, Nat.reduceEqDiff]; done)
 | (with_reducible apply regW_yesN
    · simp only [dstOk, Nat.reduceLT]
    · rfl
    · simp only [putSt, lk, lkb, reduceCtorEq, Nat.reduceEqDiff]; done)
 | (with_reducible apply regW_no
    · simp only [dstOk, Nat.reduceLT]
    · rfl
    · simp only [putSt, lk, lkb, reduceCtorEq, Nat.reduceEqDiff, Bool.not_true, Bool.not_false]; done)
 | (with_reducible apply regW_guardN
    · simp only [dstOk, Nat.reduceLT]
    · rfl
    · simp only [putSt, lk, lkb, reduceCtorEq, Nat.reduceEqDiff]; rfl
    all_goals (intro hc; (try (simp only [Bool.not_true, Bool.not_false] at hc))))
 | (with_reducible apply sw_cond
    · simp only [putSt, lk, lkb, reduceCtorEq, Nat.reduceEqDiff]; rfl
    all_goals (intro hc; try (cases hc; done)))
 | ((first
     | ((with_reducible refine gh_ret ?_)
        revert h
        with_reducible refine some_elim ?_
        rintro rfl)
     | (with_reducible apply regD_opK
        · simp only [dstOk, Nat.reduceLT]
        · simp only [Nat.reduceAdd]; rfl
        intro k hk)
     | (with_reducible apply regW_opK
        · simp only [dstOk, Nat.reduceLT]
        · simp only [Nat.reduceAdd]; rfl
        intro k hk)
     | skip)
    simp only [RetW, bn, lkb, evb, opC, opP, fetchN, fetchP, fetchAll, fetchO, Prog.bind, Prog.wp, Prog.wp_bind, lk, nameP, nameAll, Value.oneCell', putSt, stepP, putP, reduceCtorEq, V.lin, V.linL, D.lin, isNil, binP, unP, BinOp.isShift, Prog.ofO, Nat.reduceAdd, Nat.reduceMul, Nat.reduceSub, Nat.reduceLT, Nat.reduceLeDiff, Nat.reduceEqDiff, ite_true, ite_false, fieldAddrP, fieldP, indexAddrP, loadP, storeP, boxP, allocP, cellsP, asVal, setSeg, outP, outT, cntT, TyK.field, TyK.agg, zeroRow, V.ren, V.renL, forall_eq_or_imp, forall_const, minmaxP, lenP, lenOf, lenStr, V.asInt, decide_true, decide_false, sliceP, boundP, makeSliceP, convertP, appendP, rowsOfP, ontoP, sizeFits, V.rowSize, TyK.src, resV, resV.go, resV.gol, retP, retOne, retAll, resTo, objsAre, Option.map_eq_map, Function.const_apply, Int.reduceNeg, Int.reduceToNat, ty2, ty26, ty107, GI2.cells, cI, cB, cS, cL, GI2_e, LcIi64_e, buildP, buildSliceP, putParts, structPlaces, chunks, List.replicate, List.flatten_nil, List.flatten_cons, Option.bind_some, bb, GI2_b, LcIi64_b, nilEqP, ne_eq, not_false_eq_true, not_true_eq_false, *]
    try (refine hk.use _ _ _ _ ?_; clear hk k))
 | fail)
  all_goals (try rfl)
  all_goals (try (simp; done))
  all_goals (try (simp_all; done))
def impl_heightsOf.l1 : Nat → (List GFunc) → (List Int) → (List Bool) → (List GI2) → Int → Int → Option ((List GFunc) × (List Int) × (List Bool) × (List GI2))
  | 0, _, _, _, _, _, _ => none
  | k + 1, a1, a2, a3, a4, a5, a6 => cond ((decide (a6 < a5))) ((idx a2 a6).bind fun m2 => impl_heightsOf.l1 k a1 ((a2.set a6.toNat ((-1)))) a3 a4 a5 ((IntKind.i64.wrap (a6 + 1)))) (some (a1, a2, a3, a4))
def impl_heightsOf.a3 (k : Nat) (a1 : (List GFunc)) (a2 : (List Int)) (a3 : (List Bool)) (a4 : GI2) (a5 : (List GI2)) (a6 : Int) (a7 : Int) : Option (((List Int) × Int × Int) ⊕ ((List GFunc) × (List Int) × (List Bool) × GI2 × (List GI2) × Int × Int)) :=
  cond ((decide (a7 < 0))) (some (.inl (a2, a6, 5))) ((impl_Puts a4).bind fun t9 => cond ((decide (((IntKind.i64.wrap (a7 + t9))) > 8))) (some (.inl (a2, a6, 5))) (some (.inr (a1, a2, a3, a4, a5, a6, a7))))
def impl_heightsOf.a5 (k : Nat) (a1 : (List GFunc)) (a2 : (List Int)) (a3 : (List Bool)) (a4 : GI2) (a5 : (List Int)) (a6 : (List GI2)) (a7 : Int) (a8 : Int) (a9 : Int) (a10 : Int) (a11 : Int) (a12 : Int) : Option (((List Int) × Int × Int) ⊕ ((List GFunc) × (List Int) × (List Bool) × GI2 × (List Int) × (List GI2) × Int × Int × Int × Int × Int × Int)) :=
  (idx a2 a10).bind fun m12 => cond ((decide (m12 ≥ 0))) ((impl_Puts a4).bind fun t13 => cond ((m12 != ((IntKind.i64.wrap (a8 + t13))))) (some (.inl (a2, a7, 5))) (some (.inr (a1, a2, a3, a4, a5, a6, a7, a8, a9, a10, a11, a12)))) (some (.inr (a1, a2, a3, a4, a5, a6, a7, a8, a9, a10, a11, a12)))
def impl_heightsOf.l4 : Nat → (List GFunc) → (List Int) → (List Bool) → GI2 → (List Int) → (List GI2) → Int → Int → Int → Int → Int → Option (((List Int) × Int × Int) ⊕ ((List GFunc) × (List Int) × (List Bool) × (List GI2) × Int))
  | 0, _, _, _, _, _, _, _, _, _, _, _ => none
  | k + 1, a1, a2, a3, a4, a5, a6, a7, a8, a9, a10, a11 => cond ((decide (a11 < a10))) ((idx a5 a11).bind fun m11 => cond ((m11 == ((a6.length : Int)))) (some (.inl (a2, a7, 6))) ((impl_heightsOf.a5 k a1 a2 a3 a4 a5 a6 a7 a8 a9 m11 a10 a11).bind fun o5 => Sum.elim (fun o5l => some (.inl (o5l.1, o5l.2.1, o5l.2.2))) (fun o5r => (idx o5r.2.1 o5r.2.2.2.2.2.2.2.2.2.1).bind fun m14 => cond ((decide (m14 < 0))) ((impl_Puts o5r.2.2.2.1).bind fun t15 => (idx o5r.2.2.1 o5r.2.2.2.2.2.2.2.2.2.1).bind fun m16 => impl_heightsOf.l4 k o5r.1 ((o5r.2.1.set o5r.2.2.2.2.2.2.2.2.2.1.toNat ((IntKind.i64.wrap (o5r.2.2.2.2.2.2.2.1 + t15))))) ((o5r.2.2.1.set o5r.2.2.2.2.2.2.2.2.2.1.toNat true)) o5r.2.2.2.1 o5r.2.2.2.2.1 o5r.2.2.2.2.2.1 o5r.2.2.2.2.2.2.1 o5r.2.2.2.2.2.2.2.1 ((if decide (o5r.2.2.2.2.2.2.2.2.2.1 < o5r.2.2.2.2.2.2.2.2.1) = true then o5r.2.2.2.2.2.2.2.2.2.1 else o5r.2.2.2.2.2.2.2.2.1)) o5r.2.2.2.2.2.2.2.2.2.2.1 ((IntKind.i64.wrap (o5r.2.2.2.2.2.2.2.2.2.2.2 + 1)))) (impl_heightsOf.l4 k o5r.1 o5r.2.1 o5r.2.2.1 o5r.2.2.2.1 o5r.2.2.2.2.1 o5r.2.2.2.2.2.1 o5r.2.2.2.2.2.2.1 o5r.2.2.2.2.2.2.2.1 o5r.2.2.2.2.2.2.2.2.1 o5r.2.2.2.2.2.2.2.2.2.2.1 ((IntKind.i64.wrap (o5r.2.2.2.2.2.2.2.2.2.2.2 + 1))))) o5)) (some (.inr (a1, a2, a3, a6, a9)))
def impl_heightsOf.l2 : Nat → (List GFunc) → (List Int) → (List Bool) → (List GI2) → Int → Option (((List Int) × Int × Int) ⊕ ((List Int)))
  | 0, _, _, _, _, _ => none
  | k + 1, a1, a2, a3, a4, a5 => cond ((decide (a5 < ((a4.length : Int))))) ((idx a3 a5).bind fun m5 => cond ((!m5)) (impl_heightsOf.l2 k a1 a2 a3 a4 ((IntKind.i64.wrap (a5 + 1)))) ((idx a4 a5).bind fun m6 => (idx a2 a5).bind fun m7 => (impl_Takes k ((⟨a1⟩ : GProgram)) m6).bind fun t8 => (impl_heightsOf.a3 k a1 a2 ((a3.set a5.toNat false)) m6 a4 a5 ((IntKind.i64.wrap (m7 - t8)))).bind fun o3 => Sum.elim (fun o3l => some (.inl (o3l.1, o3l.2.1, o3l.2.2))) (fun o3r => (impl_next o3r.2.2.2.1 o3r.2.2.2.2.2.1).bind fun t10 => (impl_heightsOf.l4 k o3r.1 o3r.2.1 o3r.2.2.1 o3r.2.2.2.1 t10 o3r.2.2.2.2.1 o3r.2.2.2.2.2.1 o3r.2.2.2.2.2.2 o3r.2.2.2.2.2.1 ((t10.length : Int)) 0).bind fun o4 => Sum.elim (fun o4l => some (.inl (o4l.1, o4l.2.1, o4l.2.2))) (fun o4r => impl_heightsOf.l2 k o4r.1 o4r.2.1 o4r.2.2.1 o4r.2.2.2.1 o4r.2.2.2.2) o4) o3)) (some (.inr (a2)))
def impl_heightsOf (k : Nat) (p0 : GProgram) (p1 : Int) : Option ((List Int) × Int × Int) :=
  (idx p0.funcs p1).bind fun m1 => gd (0 ≤ (m1.code.length : Int) ∧ ((m1.code.length : Int)) * 8 ≤ 35184372088832 ∧ (m1.code.length : Int) ≤ 35184372088832) (gd (0 ≤ (m1.code.length : Int) ∧ ((m1.code.length : Int)) * 1 ≤ 35184372088832 ∧ (m1.code.length : Int) ≤ 35184372088832) ((impl_heightsOf.l1 k p0.funcs ((List.replicate m1.code.length 0)) ((List.replicate m1.code.length false)) m1.code ((m1.code.length : Int)) 0).bind fun o1 => (idx o1.2.1 0).bind fun m3 => (idx o1.2.2.1 0).bind fun m4 => (impl_heightsOf.l2 k o1.1 ((o1.2.1.set 0 0)) ((o1.2.2.1.set 0 true)) o1.2.2.2 0).bind fun o2 => Sum.elim (fun o2l => some (o2l.1, o2l.2.1, o2l.2.2)) (fun o2r => some (o2r, 0, 0)) o2))
theorem c_impl_heightsOf {k : Nat} {p0 : GProgram} {p1 : Int} {r : (List Int) × Int × Int} (h : impl_heightsOf k p0 p1 = some r) : Con Try.prog 111 [.agg [.d (.row .bor 3 (Rw (GFunc.cells .bor) p0.funcs))], V.int p1] [] (.tup [.d (.row .own 1 (Rw (cI .i64) r.1)), V.int r.2.1, V.int r.2.2]) [] := by
  refine con_of_sw Try.func111 rfl Try.call111 (by simp [Try.ntmps111]) (by simp [V.inNs, V.inN]) (by simp [C.inN, V.inNss, V.inNs, V.inN, inNss_dd]) (by simp [V.inNs, V.inN]) (by simp [C.inN, V.inNss, V.inNs, V.inN, inNss_dd]) rfl ?_
  rw [Try.ntmps111, Try.results111]
  unfold impl_heightsOf at h
  replace h := Yes.mk h
  simp only [entryS, entryO, Nat.reduceAdd, List.length_nil, List.length_cons]
  repeat' (first
 | (with_reducible (first | refine sw_reg ?_ | refine sw_ret ?_ | refine sw_skip ?_ | refine sw_block ?_ | refine sw_exit ?_ | refine seqQ_normal ?_ | refine blockQ_normal ?_ | refine blockQ_ret ?_ | refine blockQ_this ?_ | refine blockQ_other (by decide) ?_ | refine regW_nil ?_ | refine sw_draw mixed ?_ | refine retQ_ret ?_ | refine retQ_normal ?_))
 | (with_reducible refine regD_nil ?_
    refine ⟨by kernel_rfl, ?_⟩)
 | (revert h; (first | ((with_reducible refine idx_elim ?_); intro m hm1 hm2 hm3 h; (try (simp only [Int.reduceToNat] at hm3)); (try (revert hm3; (with_reducible apply same_elim); (focus (with_reducible assumption)); rintro rfl)); (try (simp only [List.length_set, List.length_cons, List.length_nil, List.length_replicate, Nat.reduceAdd, Int.cast_ofNat_Int, Nat.zero_add, List.length_append] at hm2))) | (with_reducible refine sidx_elim ?_; intro m hm1 hm3 h) | (with_reducible refine gd_elim ?_; intro hg h; try (have hg2 := hg.2; have hg := hg.1; (try (simp only [Nat.reduceLeDiff] at hg2)); (try (revert hg2; (with_reducible refine toNat_elim hg ?_); intro hg2 hg4)); try (have hg3 := hg2.2; have hg2 := hg2.1; (try (simp only [Nat.reduceLeDiff] at hg3))))) | (with_reducible refine condt_elim ?_ ?_; (focus (with_reducible assumption)); intro h) | (with_reducible refine condf_elim ?_ ?_; (focus (with_reducible assumption)); intro h)))
 | ((first | with_reducible refine seqQ_ret (K := (fun st1 n1 => Gh st1 n1 (MeetA _ 50000000 _ _))) ?_ | with_reducible refine seqQ_exit (K := (fun st1 n1 => Gh st1 n1 (MeetA _ 50000000 _ _))) ?_)
    obtain rfl := h.get
    have h := hK5
    (try (simp only [Sum.elim_inl, Sum.elim_inr] at h)))
 | ((first | with_reducible refine seqQ_ret (K := (fun st1 n1 => Gh st1 n1 (NextS _ 40000000 _ _ _ _))) ?_ | with_reducible refine seqQ_exit (K := (fun st1 n1 => Gh st1 n1 (NextS _ 40000000 _ _ _ _))) ?_)
    obtain rfl := h.get
    have h := hK4
    (try (simp only [Sum.elim_inl, Sum.elim_inr] at h)))
 | ((first | with_reducible refine seqQ_ret (K := (fun st1 n1 => Gh st1 n1 (MeetA _ 30000000 _ _))) ?_ | with_reducible refine seqQ_exit (K := (fun st1 n1 => Gh st1 n1 (MeetA _ 30000000 _ _))) ?_)
    obtain rfl := h.get
    have h := hK3
    (try (simp only [Sum.elim_inl, Sum.elim_inr] at h)))
 | ((first | with_reducible refine seqQ_ret (K := (fun st1 n1 => Gh st1 n1 (NextS _ 20000000 _ _ _ _))) ?_ | with_reducible refine seqQ_exit (K := (fun st1 n1 => Gh st1 n1 (NextS _ 20000000 _ _ _ _))) ?_)
    obtain rfl := h.get
    have h := hK2
    (try (simp only [Sum.elim_inl, Sum.elim_inr] at h)))
 | ((first | with_reducible refine seqQ_ret (K := (fun st1 n1 => Gh st1 n1 (NextS _ 10000000 _ _ _ _))) ?_ | with_reducible refine seqQ_exit (K := (fun st1 n1 => Gh st1 n1 (NextS _ 10000000 _ _ _ _))) ?_)
    obtain rfl := h.get
    have h := hK1
    (try (simp only [Sum.elim_inl, Sum.elim_inr] at h)))
 | (with_reducible refine here_join (a := (.seq (.region 26 _ _) _)) (b := (.seq (.region 28 _ _) _)) ?_
    skip
    revert h
    with_reducible refine bind_elimY ?_
    intro o5 h hK5
    unfold impl_heightsOf.a5 at h
    refine sw_join (ι := (List GFunc) × (List Int) × (List Bool) × GI2 × (List Int) × (List GI2) × Int × Int × Int × Int × Int × Int) 50000000 (fun x : (List GFunc) × (List Int) × (List Bool) × GI2 × (List Int) × (List GI2) × Int × Int × Int × Int × Int × Int => [(.s 2, some (.v (.mp 0 1 0 0))), (.s 7, some (.v (.d (.row .bor 2 (Rw GI2.cells x.2.2.2.2.2.1))))), (.s 8, some (.v (.sl 896 1 0 x.2.1.length))), (.s 9, some (.v (.sl 1152 1 0 x.2.2.1.length))), (.s 11, some (.v (V.int x.2.2.2.2.2.2.1))), (.s 12, some (.v (.mp 20001088 2 0 0))), (.s 13, some (.v (V.int x.2.2.2.2.2.2.2.1))), (.s 14, some (.v (V.int x.2.2.2.2.2.2.2.2.1))), (.s 16, some (.v (V.int x.2.2.2.2.2.2.2.2.2.1))), (.s 82, some (.v (.sl 30000256 1 0 x.2.2.2.2.1.length))), (.s 83, some (.v (V.int x.2.2.2.2.2.2.2.2.2.2.1))), (.s 84, some (.v (V.int x.2.2.2.2.2.2.2.2.2.2.2))), (.r 0, some (.o 1 [[.d (.row .bor 3 (Rw (GFunc.cells .bor) x.1))]])), (.r 896, some (.o 1 (dd (Rw (cI .i64) x.2.1)))), (.r 1152, some (.o 1 (dd (Rw cB x.2.2.1)))), (.r 20001088, some (.o 2 [[V.int x.2.2.2.1.a, V.int x.2.2.2.1.b]])), (.r 30000256, some (.o 1 (dd (Rw (cI .i64) x.2.2.2.2.1))))]) (fun x => Yes (some (.inr x)) o5) ?_ ?_
    rotate_left
    rintro ⟨b1, b2, b3, b4, b5, b6, b7, b8, b9, b10, b11, b12⟩ h
    obtain rfl := h.get
    have h := hK5
    (try (simp only [Sum.elim_inl, Sum.elim_inr] at h))
    refine sw_gh ?_
    refine gh_sw ?_
    skip)
 | (with_reducible refine here_meet (N0 := 50000000) ?_
    skip
    refine meet_to (_, _, _, _, _, _, _, _, _, _, _, _) (by decide) ?_ h ?_
    · exact (by simp [slNL, C.inN, V.inN, V.inNs, V.inNss, inNss_dd, inNs_map_d])
    · simp only [SubL, putSt, lk, lkb, reduceCtorEq, Nat.reduceEqDiff, List.length_set, List.length_replicate]; repeat' (first | apply And.intro | rfl | trivial | (simp only [*]; done)))
 | (with_reducible refine here_loop (c := (.seq (.region 22 _ _) _)) ?_
    skip
    revert h
    with_reducible refine bind_elimY ?_
    intro o4 h hK4
    refine sw_loop (ι := Nat × (List GFunc) × (List Int) × (List Bool) × GI2 × (List Int) × (List GI2) × Int × Int × Int × Int × Int) 40000000 (by decide) (fun x : Nat × (List GFunc) × (List Int) × (List Bool) × GI2 × (List Int) × (List GI2) × Int × Int × Int × Int × Int => [(.s 2, some (.v (.mp 0 1 0 0))), (.s 7, some (.v (.d (.row .bor 2 (Rw GI2.cells x.2.2.2.2.2.2.1))))), (.s 8, some (.v (.sl 896 1 0 x.2.2.1.length))), (.s 9, some (.v (.sl 1152 1 0 x.2.2.2.1.length))), (.s 11, some (.v (V.int x.2.2.2.2.2.2.2.1))), (.s 12, some (.v (.mp 20001088 2 0 0))), (.s 13, some (.v (V.int x.2.2.2.2.2.2.2.2.1))), (.s 14, some (.v (V.int x.2.2.2.2.2.2.2.2.2.1))), (.s 82, some (.v (.sl 30000256 1 0 x.2.2.2.2.2.1.length))), (.s 83, some (.v (V.int x.2.2.2.2.2.2.2.2.2.2.1))), (.s 84, some (.v (V.int x.2.2.2.2.2.2.2.2.2.2.2))), (.r 0, some (.o 1 [[.d (.row .bor 3 (Rw (GFunc.cells .bor) x.2.1))]])), (.r 896, some (.o 1 (dd (Rw (cI .i64) x.2.2.1)))), (.r 1152, some (.o 1 (dd (Rw cB x.2.2.2.1)))), (.r 20001088, some (.o 2 [[V.int x.2.2.2.2.1.a, V.int x.2.2.2.2.1.b]])), (.r 30000256, some (.o 1 (dd (Rw (cI .i64) x.2.2.2.2.2.1))))]) (fun x => x.1) (fun x => Yes (impl_heightsOf.l4 x.1 x.2.1 x.2.2.1 x.2.2.2.1 x.2.2.2.2.1 x.2.2.2.2.2.1 x.2.2.2.2.2.2.1 x.2.2.2.2.2.2.2.1 x.2.2.2.2.2.2.2.2.1 x.2.2.2.2.2.2.2.2.2.1 x.2.2.2.2.2.2.2.2.2.2.1 x.2.2.2.2.2.2.2.2.2.2.2) o4) (_, _, _, _, _, _, _, _, _, _, _, _) ?_ h ?_ ?_
    · exact (by simp [slNL, C.inN, V.inN, V.inNs, V.inNss, inNss_dd, inNs_map_d])
    · simp only [SubL, putSt, lk, lkb, reduceCtorEq, Nat.reduceEqDiff, List.length_set, List.length_replicate]; repeat' (first | apply And.intro | rfl | trivial | (simp only [*]; done))
    rintro ⟨_ | k, a1, a2, a3, a4, a5, a6, a7, a8, a9, a10, a11⟩ h
    · simp only [impl_heightsOf.l4] at h; exact h.none
    simp only [impl_heightsOf.l4] at h
)
 | (with_reducible refine here_next (N0 := 40000000) ?_
    skip
    refine nexts_to (_, _, _, _, _, _, _, _, _, _, _, _) (by decide) ?_ (Nat.lt_succ_self _) h ?_
    · exact (by simp [slNL, C.inN, V.inN, V.inNs, V.inNss, inNss_dd, inNs_map_d])
    · simp only [SubL, putSt, lk, lkb, reduceCtorEq, Nat.reduceEqDiff, List.length_set, List.length_replicate]; repeat' (first | apply And.intro | rfl | trivial | (simp only [*]; done)))
 | (with_reducible refine here_join (a := (.seq (.region 18 _ _) _)) (b := (.seq (.region 20 _ _) _)) ?_
    skip
    revert h
    with_reducible refine bind_elimY ?_
    intro o3 h hK3
    unfold impl_heightsOf.a3 at h
    refine sw_join (ι := (List GFunc) × (List Int) × (List Bool) × GI2 × (List GI2) × Int × Int) 30000000 (fun x : (List GFunc) × (List Int) × (List Bool) × GI2 × (List GI2) × Int × Int => [(.s 2, some (.v (.mp 0 1 0 0))), (.s 7, some (.v (.d (.row .bor 2 (Rw GI2.cells x.2.2.2.2.1))))), (.s 8, some (.v (.sl 896 1 0 x.2.1.length))), (.s 9, some (.v (.sl 1152 1 0 x.2.2.1.length))), (.s 11, some (.v (V.int x.2.2.2.2.2.1))), (.s 12, some (.v (.mp 20001088 2 0 0))), (.s 13, some (.v (V.int x.2.2.2.2.2.2))), (.r 0, some (.o 1 [[.d (.row .bor 3 (Rw (GFunc.cells .bor) x.1))]])), (.r 896, some (.o 1 (dd (Rw (cI .i64) x.2.1)))), (.r 1152, some (.o 1 (dd (Rw cB x.2.2.1)))), (.r 20001088, some (.o 2 [[V.int x.2.2.2.1.a, V.int x.2.2.2.1.b]]))]) (fun x => Yes (some (.inr x)) o3) ?_ ?_
    rotate_left
    rintro ⟨b1, b2, b3, b4, b5, b6, b7⟩ h
    obtain rfl := h.get
    have h := hK3
    (try (simp only [Sum.elim_inl, Sum.elim_inr] at h))
    refine sw_gh ?_
    refine gh_sw ?_
    skip)
 | (with_reducible refine here_meet (N0 := 30000000) ?_
    skip
    refine meet_to (_, _, _, _, _, _, _) (by decide) ?_ h ?_
    · exact (by simp [slNL, C.inN, V.inN, V.inNs, V.inNss, inNss_dd, inNs_map_d])
    · simp only [SubL, putSt, lk, lkb, reduceCtorEq, Nat.reduceEqDiff, List.length_set, List.length_replicate]; repeat' (first | apply And.intro | rfl | trivial | (simp only [*]; done)))
 | (with_reducible refine here_loop (c := (.seq (.seq (.region 12 _ _) _) _)) ?_
    skip
    revert h
    with_reducible refine bind_elimY ?_
    intro o2 h hK2
    refine sw_loop (ι := Nat × (List GFunc) × (List Int) × (List Bool) × (List GI2) × Int) 20000000 (by decide) (fun x : Nat × (List GFunc) × (List Int) × (List Bool) × (List GI2) × Int => [(.s 2, some (.v (.mp 0 1 0 0))), (.s 7, some (.v (.d (.row .bor 2 (Rw GI2.cells x.2.2.2.2.1))))), (.s 8, some (.v (.sl 896 1 0 x.2.2.1.length))), (.s 9, some (.v (.sl 1152 1 0 x.2.2.2.1.length))), (.s 11, some (.v (V.int x.2.2.2.2.2))), (.r 0, some (.o 1 [[.d (.row .bor 3 (Rw (GFunc.cells .bor) x.2.1))]])), (.r 896, some (.o 1 (dd (Rw (cI .i64) x.2.2.1)))), (.r 1152, some (.o 1 (dd (Rw cB x.2.2.2.1))))]) (fun x => x.1) (fun x => Yes (impl_heightsOf.l2 x.1 x.2.1 x.2.2.1 x.2.2.2.1 x.2.2.2.2.1 x.2.2.2.2.2) o2) (_, _, _, _, _, _) ?_ h ?_ ?_
    · exact (by simp [slNL, C.inN, V.inN, V.inNs, V.inNss, inNss_dd, inNs_map_d])
    · simp only [SubL, putSt, lk, lkb, reduceCtorEq, Nat.reduceEqDiff, List.length_set, List.length_replicate]; repeat' (first | apply And.intro | rfl | trivial | (simp only [*]; done))
    rintro ⟨_ | k, a1, a2, a3, a4, a5⟩ h
    · simp only [impl_heightsOf.l2] at h; exact h.none
    simp only [impl_heightsOf.l2] at h
)
 | (with_reducible refine here_next (N0 := 20000000) ?_
    skip
    refine nexts_to (_, _, _, _, _, _) (by decide) ?_ (Nat.lt_succ_self _) h ?_
    · exact (by simp [slNL, C.inN, V.inN, V.inNs, V.inNss, inNss_dd, inNs_map_d])
    · simp only [SubL, putSt, lk, lkb, reduceCtorEq, Nat.reduceEqDiff, List.length_set, List.length_replicate]; repeat' (first | apply And.intro | rfl | trivial | (simp only [*]; done)))
 | (with_reducible refine here_loop (c := (.seq (.region 5 _ _) _)) ?_
    skip
    revert h
    with_reducible refine bind_elimY ?_
    intro o1 h hK1
    refine sw_loop (ι := Nat × (List GFunc) × (List Int) × (List Bool) × (List GI2) × Int × Int) 10000000 (by decide) (fun x : Nat × (List GFunc) × (List Int) × (List Bool) × (List GI2) × Int × Int => [(.s 2, some (.v (.mp 0 1 0 0))), (.s 7, some (.v (.d (.row .bor 2 (Rw GI2.cells x.2.2.2.2.1))))), (.s 8, some (.v (.sl 896 1 0 x.2.2.1.length))), (.s 9, some (.v (.sl 1152 1 0 x.2.2.2.1.length))), (.s 30, some (.v (V.int x.2.2.2.2.2.1))), (.s 31, some (.v (V.int x.2.2.2.2.2.2))), (.r 0, some (.o 1 [[.d (.row .bor 3 (Rw (GFunc.cells .bor) x.2.1))]])), (.r 896, some (.o 1 (dd (Rw (cI .i64) x.2.2.1)))), (.r 1152, some (.o 1 (dd (Rw cB x.2.2.2.1))))]) (fun x => x.1) (fun x => Yes (impl_heightsOf.l1 x.1 x.2.1 x.2.2.1 x.2.2.2.1 x.2.2.2.2.1 x.2.2.2.2.2.1 x.2.2.2.2.2.2) o1) (_, _, _, _, _, _, _) ?_ h ?_ ?_
    · exact (by simp [slNL, C.inN, V.inN, V.inNs, V.inNss, inNss_dd, inNs_map_d])
    · simp only [SubL, putSt, lk, lkb, reduceCtorEq, Nat.reduceEqDiff, List.length_set, List.length_replicate]; repeat' (first | apply And.intro | rfl | trivial | (simp only [*]; done))
    rintro ⟨_ | k, a1, a2, a3, a4, a5, a6⟩ h
    · simp only [impl_heightsOf.l1] at h; exact h.none
    simp only [impl_heightsOf.l1] at h
)
 | (with_reducible refine here_next (N0 := 10000000) ?_
    skip
    refine nexts_to (_, _, _, _, _, _, _) (by decide) ?_ (Nat.lt_succ_self _) h ?_
    · exact (by simp [slNL, C.inN, V.inN, V.inNs, V.inNss, inNss_dd, inNs_map_d])
    · simp only [SubL, putSt, lk, lkb, reduceCtorEq, Nat.reduceEqDiff, List.length_set, List.length_replicate]; repeat' (first | apply And.intro | rfl | trivial | (simp only [*]; done)))
 | with_reducible refine sw_seq ?_
 | with_reducible refine seqQ_ret ?_
 | with_reducible refine seqQ_exit ?_
 | (with_reducible refine gh_nilRow 4 .own 1 ?_ ?_
    · simp only [putSt, lk, lkb, reduceCtorEq, Nat.reduceEqDiff]; done
    skip)
 | ((with_reducible refine wp_ite ?_ ?_)
    all_goals (intro hc; (try (simp only [Bool.not_eq_true, Bool.not_eq_false] at hc)); simp only [hc]))
 | (with_reducible apply regW_skip
    · simp only [dstOk, Nat.reduceLT]
    · rfl
    · simp only [putSt, lk, lkb, reduceCtorEq, Nat.reduceEqDiff]; done)
 | (with_reducible apply regW_yesN
    · simp only [dstOk, Nat.reduceLT]
    · rfl
    · simp only [putSt, lk, lkb, reduceCtorEq, Nat.reduceEqDiff]; done)
 | (with_reducible apply regW_no
    · simp only [dstOk, Nat.reduceLT]
    · rfl
    · simp only [putSt, lk, lkb, reduceCtorEq, Nat.reduceEqDiff, Bool.not_true, Bool.not_false]; done)
 | (with_reducible apply regW_guardN
    · simp only [dstOk, Nat.reduceLT]
    · rfl
    · simp only [putSt, lk, lkb, reduceCtorEq, Nat.reduceEqDiff]; rfl
    all_goals (intro hc; (try (simp only [Bool.not_true, Bool.not_false] at hc))))
 | (with_reducible apply sw_cond
    · simp only [putSt, lk, lkb, reduceCtorEq, Nat.reduceEqDiff]; rfl
    all_goals (intro hc; try (cases hc; done)))
 | ((first
     | ((with_reducible refine gh_ret ?_)
        revert h
        with_reducible refine some_elim ?_
        rintro rfl)
     | (with_reducible refine here_call ?_
        revert h
        with_reducible refine bind_elim ?_
        intro t ht h
        (first
          | (refine call_dataE (c_impl_next ht) ?_ rfl ?_
             · first | rfl | (simp; done))
          | (refine call_dataE (c_impl_Takes ht) ?_ rfl ?_
             · first | rfl | (simp; done))
          | (refine call_dataE (c_impl_Puts ht) ?_ rfl ?_
             · first | rfl | (simp; done))))
     | (with_reducible apply regD_opK
        · simp only [dstOk, Nat.reduceLT]
        · simp only [Nat.reduceAdd]; rfl
        intro k hk)
     | (with_reducible apply regW_opK
        · simp only [dstOk, Nat.reduceLT]
        · simp only [Nat.reduceAdd]; rfl
        intro k hk)
     | skip)
    simp only [RetW, bn, lkb, evb, opC, opP, fetchN, fetchP, fetchAll, fetchO, Prog.bind, Prog.wp, Prog.wp_bind, lk, nameP, nameAll, Value.oneCell', putSt, stepP, putP, reduceCtorEq, V.lin, V.linL, D.lin, isNil, binP, unP, BinOp.isShift, Prog.ofO, Nat.reduceAdd, Nat.reduceMul, Nat.reduceSub, Nat.reduceLT, Nat.reduceLeDiff, Nat.reduceEqDiff, ite_true, ite_false, fieldAddrP, fieldP, indexAddrP, loadP, storeP, boxP, allocP, cellsP, asVal, setSeg, outP, outT, cntT, TyK.field, TyK.agg, zeroRow, V.ren, V.renL, forall_eq_or_imp, forall_const, minmaxP, lenP, lenOf, lenStr, V.asInt, decide_true, decide_false, sliceP, boundP, makeSliceP, convertP, appendP, rowsOfP, ontoP, sizeFits, V.rowSize, TyK.src, resV, resV.go, resV.gol, retP, retOne, retAll, resTo, objsAre, Option.map_eq_map, Function.const_apply, Int.reduceNeg, Int.reduceToNat, ty2, ty3, ty4, ty26, ty28, ty30, ty63, ty65, ty107, ty117, GFunc.cells, GI2.cells, GProgram.cells, cI, cB, cS, cL, GI2_e, GFunc_e, GProgram_e, LcIi64_e, nilEqP, ne_eq, not_false_eq_true, not_true_eq_false, *]
    try (refine hk.use _ _ _ _ ?_; clear hk k))
 | fail)
  all_goals (try rfl)
  all_goals (try (simp; done))
  all_goals (try (simp_all; done))
end Go.Proofs.Ytdlaplgofgklnaa