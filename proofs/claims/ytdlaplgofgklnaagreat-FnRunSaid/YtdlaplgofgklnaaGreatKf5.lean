/- WHAT IS PROVED: an abstract walker over the model, what some functions of the program answer, and laws of these answers. Conditions: none. -/
import Derived.Test.YtdlaplgofgklnaaGreatKf4
import Derived.Test.YtdlaplgofgklnaaGreatRows
import Derived.KernelRfl
namespace Go.Proofs.YtdlaplgofgklnaaGreat
open Go.Proofs Go.Proofs.YtdlaplgofgklnaaGreat.L
set_option maxHeartbeats 400000
set_option linter.unusedSimpArgs false
set_option linter.unusedVariables false
set_option maxRecDepth 100000
set_option linter.defProp false
theorem mixed : Tryz.prog.follows .mixedOrders = true := by kernel_rfl
structure Gl01Src where
  b : (List Int)
  at0 : Int
  mix : Int
  size : Int
  deriving DecidableEq
def Gl01Src.cells (m : Md) (x : Gl01Src) : List D := [.row m 1 (Rw (cI .u8) x.b), .p (.int .i64 x.at0), .p (.int .u64 x.mix), .p (.int .i64 x.size)]
theorem Gl01Src_set (l : List Gl01Src) (i : Nat) (b_ : (List Int)) (at0_ : Int) (mix_ : Int) (size_ : Int) : (dd (Rw (Gl01Src.cells .own) l)).set i [V.d (.row .own 1 (Rw (cI .u8) b_)), V.d (.p (.int .i64 at0_)), V.d (.p (.int .u64 mix_)), V.d (.p (.int .i64 size_))] = dd (Rw (Gl01Src.cells .own) (l.set i ⟨b_, at0_, mix_, size_⟩)) := Rw_set (f := (Gl01Src.cells .own)) l i ⟨b_, at0_, mix_, size_⟩
theorem Gl01Src_Dset (l : List Gl01Src) (i : Nat) (b_ : (List Int)) (at0_ : Int) (mix_ : Int) (size_ : Int) : (Rw (Gl01Src.cells .own) l).set i [.row .own 1 (Rw (cI .u8) b_), .p (.int .i64 at0_), .p (.int .u64 mix_), .p (.int .i64 size_)] = Rw (Gl01Src.cells .own) (l.set i ⟨b_, at0_, mix_, size_⟩) := (Rw_Dset (f := (Gl01Src.cells .own)) l i ⟨b_, at0_, mix_, size_⟩)
theorem Gl01Src_rep (n : Nat) (b_ : (List Int)) (at0_ : Int) (mix_ : Int) (size_ : Int) : List.replicate n [.row .own 1 (Rw (cI .u8) b_), .p (.int .i64 at0_), .p (.int .u64 mix_), .p (.int .i64 size_)] = Rw (Gl01Src.cells .own) (List.replicate n ⟨b_, at0_, mix_, size_⟩) := Rw_rep (f := (Gl01Src.cells .own)) n ⟨b_, at0_, mix_, size_⟩
theorem Gl01Src_lend (m : Md) (l : List Gl01Src) : D.lendLL (Rw (Gl01Src.cells m) l) = Rw (Gl01Src.cells .bor) l := Rw_lend (fun x => by simp only [Gl01Src.cells, D.lendL, D.lend, Md.lend, cI_lend]) l
theorem Gl01Src_nb (l : List Gl01Src) : D.nbLL (Rw (Gl01Src.cells .own) l) = true := Rw_nb (fun x => by simp only [Gl01Src.cells, D.nbL, D.nb, Md.nb, Bool.and_self, cI_nb]) l
theorem Gl01Src_frz (m : Md) (l : List Gl01Src) : D.frzLL (Rw (Gl01Src.cells m) l) = Rw (Gl01Src.cells m.fz) l := Rw_frz (fun x => by simp only [Gl01Src.cells, D.frzL, D.frz, cI_frz]) l
theorem Gl01Src_fset (l : List Gl01Src) (i : Nat) (b_ : (List Int)) (at0_ : Int) (mix_ : Int) (size_ : Int) : (dd (Rw (Gl01Src.cells .frz) l)).set i [V.d (.row .frz 1 (Rw (cI .u8) b_)), V.d (.p (.int .i64 at0_)), V.d (.p (.int .u64 mix_)), V.d (.p (.int .i64 size_))] = dd (Rw (Gl01Src.cells .frz) (l.set i ⟨b_, at0_, mix_, size_⟩)) := Rw_set (f := (Gl01Src.cells .frz)) l i ⟨b_, at0_, mix_, size_⟩
theorem Gl01Src_fone (b_ : (List Int)) (at0_ : Int) (mix_ : Int) (size_ : Int) : [[.row .frz 1 (Rw (cI .u8) b_), .p (.int .i64 at0_), .p (.int .u64 mix_), .p (.int .i64 size_)]] = Rw (Gl01Src.cells .frz) [⟨b_, at0_, mix_, size_⟩] := rfl
theorem Gl01Src_fcons (l : List Gl01Src) (b_ : (List Int)) (at0_ : Int) (mix_ : Int) (size_ : Int) : [.row .frz 1 (Rw (cI .u8) b_), .p (.int .i64 at0_), .p (.int .u64 mix_), .p (.int .i64 size_)] :: Rw (Gl01Src.cells .frz) l = Rw (Gl01Src.cells .frz) (⟨b_, at0_, mix_, size_⟩ :: l) := rfl
theorem Gl01Src_fdone (b_ : (List Int)) (at0_ : Int) (mix_ : Int) (size_ : Int) : [[V.d (.row .frz 1 (Rw (cI .u8) b_)), V.d (.p (.int .i64 at0_)), V.d (.p (.int .u64 mix_)), V.d (.p (.int .i64 size_))]] = dd (Rw (Gl01Src.cells .frz) [⟨b_, at0_, mix_, size_⟩]) := rfl
theorem Gl01Src_fdcons (l : List Gl01Src) (b_ : (List Int)) (at0_ : Int) (mix_ : Int) (size_ : Int) : [V.d (.row .frz 1 (Rw (cI .u8) b_)), V.d (.p (.int .i64 at0_)), V.d (.p (.int .u64 mix_)), V.d (.p (.int .i64 size_))] :: dd (Rw (Gl01Src.cells .frz) l) = dd (Rw (Gl01Src.cells .frz) (⟨b_, at0_, mix_, size_⟩ :: l)) := rfl
theorem Gl01Src_plain (l : List Gl01Src) : D.plainRows (Rw (Gl01Src.cells .bor) l) = True := Rw_plain (fun x => by simp [Gl01Src.cells, D.lin]) l
def Gl01Src_e := And.intro @Gl01Src_set <| And.intro @Gl01Src_rep @Gl01Src_plain
structure GI2 where
  a : Int
  b : Int
  deriving DecidableEq
def GI2.cells (x : GI2) : List D := [.p (.int .i64 x.a), .p (.int .i64 x.b)]
theorem GI2_set (l : List GI2) (i : Nat) (a_ : Int) (b_ : Int) : (dd (Rw GI2.cells l)).set i [V.d (.p (.int .i64 a_)), V.d (.p (.int .i64 b_))] = dd (Rw GI2.cells (l.set i ⟨a_, b_⟩)) := Rw_set (f := GI2.cells) l i ⟨a_, b_⟩
theorem GI2_Dset (l : List GI2) (i : Nat) (a_ : Int) (b_ : Int) : (Rw GI2.cells l).set i [.p (.int .i64 a_), .p (.int .i64 b_)] = Rw GI2.cells (l.set i ⟨a_, b_⟩) := (Rw_Dset (f := GI2.cells) l i ⟨a_, b_⟩)
theorem GI2_one (a_ : Int) (b_ : Int) : [[.p (.int .i64 a_), .p (.int .i64 b_)]] = Rw GI2.cells [⟨a_, b_⟩] := rfl
theorem GI2_cons (l : List GI2) (a_ : Int) (b_ : Int) : [.p (.int .i64 a_), .p (.int .i64 b_)] :: Rw GI2.cells l = Rw GI2.cells (⟨a_, b_⟩ :: l) := rfl
theorem GI2_done (a_ : Int) (b_ : Int) : [[V.d (.p (.int .i64 a_)), V.d (.p (.int .i64 b_))]] = dd (Rw GI2.cells [⟨a_, b_⟩]) := rfl
theorem GI2_dcons (l : List GI2) (a_ : Int) (b_ : Int) : [V.d (.p (.int .i64 a_)), V.d (.p (.int .i64 b_))] :: dd (Rw GI2.cells l) = dd (Rw GI2.cells (⟨a_, b_⟩ :: l)) := rfl
theorem GI2_rep (n : Nat) (a_ : Int) (b_ : Int) : List.replicate n [.p (.int .i64 a_), .p (.int .i64 b_)] = Rw GI2.cells (List.replicate n ⟨a_, b_⟩) := Rw_rep (f := GI2.cells) n ⟨a_, b_⟩
theorem GI2_lend (l : List GI2) : D.lendLL (Rw GI2.cells l) = Rw GI2.cells l := Rw_lend (fun _ => rfl) l
theorem GI2_nb (l : List GI2) : D.nbLL (Rw GI2.cells l) = true := Rw_nb (fun _ => rfl) l
theorem GI2_frz (l : List GI2) : D.frzLL (Rw GI2.cells l) = Rw GI2.cells l := Rw_frz (fun _ => rfl) l
theorem GI2_plain (l : List GI2) : D.plainRows (Rw GI2.cells l) = True := Rw_plain (fun x => by simp [GI2.cells, D.lin]) l
def GI2_e := And.intro @GI2_set <| And.intro @GI2_rep @GI2_plain
def GI2_b := And.intro @GI2_one <| And.intro @GI2_cons <| And.intro @GI2_done @GI2_dcons
structure GFunc where
  args : Int
  locals : Int
  code : (List GI2)
  deriving DecidableEq
def GFunc.cells (m : Md) (x : GFunc) : List D := [.p (.int .i64 x.args), .p (.int .i64 x.locals), .row m 2 (Rw GI2.cells x.code)]
theorem GFunc_set (l : List GFunc) (i : Nat) (args_ : Int) (locals_ : Int) (code_ : (List GI2)) : (dd (Rw (GFunc.cells .own) l)).set i [V.d (.p (.int .i64 args_)), V.d (.p (.int .i64 locals_)), V.d (.row .own 2 (Rw GI2.cells code_))] = dd (Rw (GFunc.cells .own) (l.set i ⟨args_, locals_, code_⟩)) := Rw_set (f := (GFunc.cells .own)) l i ⟨args_, locals_, code_⟩
theorem GFunc_Dset (l : List GFunc) (i : Nat) (args_ : Int) (locals_ : Int) (code_ : (List GI2)) : (Rw (GFunc.cells .own) l).set i [.p (.int .i64 args_), .p (.int .i64 locals_), .row .own 2 (Rw GI2.cells code_)] = Rw (GFunc.cells .own) (l.set i ⟨args_, locals_, code_⟩) := (Rw_Dset (f := (GFunc.cells .own)) l i ⟨args_, locals_, code_⟩)
theorem GFunc_one (args_ : Int) (locals_ : Int) (code_ : (List GI2)) : [[.p (.int .i64 args_), .p (.int .i64 locals_), .row .own 2 (Rw GI2.cells code_)]] = Rw (GFunc.cells .own) [⟨args_, locals_, code_⟩] := rfl
theorem GFunc_cons (l : List GFunc) (args_ : Int) (locals_ : Int) (code_ : (List GI2)) : [.p (.int .i64 args_), .p (.int .i64 locals_), .row .own 2 (Rw GI2.cells code_)] :: Rw (GFunc.cells .own) l = Rw (GFunc.cells .own) (⟨args_, locals_, code_⟩ :: l) := rfl
theorem GFunc_done (args_ : Int) (locals_ : Int) (code_ : (List GI2)) : [[V.d (.p (.int .i64 args_)), V.d (.p (.int .i64 locals_)), V.d (.row .own 2 (Rw GI2.cells code_))]] = dd (Rw (GFunc.cells .own) [⟨args_, locals_, code_⟩]) := rfl
theorem GFunc_dcons (l : List GFunc) (args_ : Int) (locals_ : Int) (code_ : (List GI2)) : [V.d (.p (.int .i64 args_)), V.d (.p (.int .i64 locals_)), V.d (.row .own 2 (Rw GI2.cells code_))] :: dd (Rw (GFunc.cells .own) l) = dd (Rw (GFunc.cells .own) (⟨args_, locals_, code_⟩ :: l)) := rfl
theorem GFunc_rep (n : Nat) (args_ : Int) (locals_ : Int) (code_ : (List GI2)) : List.replicate n [.p (.int .i64 args_), .p (.int .i64 locals_), .row .own 2 (Rw GI2.cells code_)] = Rw (GFunc.cells .own) (List.replicate n ⟨args_, locals_, code_⟩) := Rw_rep (f := (GFunc.cells .own)) n ⟨args_, locals_, code_⟩
theorem GFunc_lend (m : Md) (l : List GFunc) : D.lendLL (Rw (GFunc.cells m) l) = Rw (GFunc.cells .bor) l := Rw_lend (fun x => by simp only [GFunc.cells, D.lendL, D.lend, Md.lend, GI2_lend]) l
theorem GFunc_nb (l : List GFunc) : D.nbLL (Rw (GFunc.cells .own) l) = true := Rw_nb (fun x => by simp only [GFunc.cells, D.nbL, D.nb, Md.nb, Bool.and_self, GI2_nb]) l
theorem GFunc_frz (m : Md) (l : List GFunc) : D.frzLL (Rw (GFunc.cells m) l) = Rw (GFunc.cells m.fz) l := Rw_frz (fun x => by simp only [GFunc.cells, D.frzL, D.frz, GI2_frz]) l
theorem GFunc_fset (l : List GFunc) (i : Nat) (args_ : Int) (locals_ : Int) (code_ : (List GI2)) : (dd (Rw (GFunc.cells .frz) l)).set i [V.d (.p (.int .i64 args_)), V.d (.p (.int .i64 locals_)), V.d (.row .frz 2 (Rw GI2.cells code_))] = dd (Rw (GFunc.cells .frz) (l.set i ⟨args_, locals_, code_⟩)) := Rw_set (f := (GFunc.cells .frz)) l i ⟨args_, locals_, code_⟩
theorem GFunc_fone (args_ : Int) (locals_ : Int) (code_ : (List GI2)) : [[.p (.int .i64 args_), .p (.int .i64 locals_), .row .frz 2 (Rw GI2.cells code_)]] = Rw (GFunc.cells .frz) [⟨args_, locals_, code_⟩] := rfl
theorem GFunc_fcons (l : List GFunc) (args_ : Int) (locals_ : Int) (code_ : (List GI2)) : [.p (.int .i64 args_), .p (.int .i64 locals_), .row .frz 2 (Rw GI2.cells code_)] :: Rw (GFunc.cells .frz) l = Rw (GFunc.cells .frz) (⟨args_, locals_, code_⟩ :: l) := rfl
theorem GFunc_fdone (args_ : Int) (locals_ : Int) (code_ : (List GI2)) : [[V.d (.p (.int .i64 args_)), V.d (.p (.int .i64 locals_)), V.d (.row .frz 2 (Rw GI2.cells code_))]] = dd (Rw (GFunc.cells .frz) [⟨args_, locals_, code_⟩]) := rfl
theorem GFunc_fdcons (l : List GFunc) (args_ : Int) (locals_ : Int) (code_ : (List GI2)) : [V.d (.p (.int .i64 args_)), V.d (.p (.int .i64 locals_)), V.d (.row .frz 2 (Rw GI2.cells code_))] :: dd (Rw (GFunc.cells .frz) l) = dd (Rw (GFunc.cells .frz) (⟨args_, locals_, code_⟩ :: l)) := rfl
theorem GFunc_plain (l : List GFunc) : D.plainRows (Rw (GFunc.cells .bor) l) = True := Rw_plain (fun x => by simp [GFunc.cells, D.lin]) l
def GFunc_e := And.intro @GFunc_set <| And.intro @GFunc_rep @GFunc_plain
def GFunc_b := And.intro @GFunc_one <| And.intro @GFunc_cons <| And.intro @GFunc_done @GFunc_dcons
structure GProgram where
  funcs : (List GFunc)
  deriving DecidableEq
def GProgram.cells (m : Md) (x : GProgram) : List D := [.row m 3 (Rw (GFunc.cells m) x.funcs)]
theorem GProgram_set (l : List GProgram) (i : Nat) (funcs_ : (List GFunc)) : (dd (Rw (GProgram.cells .own) l)).set i [V.d (.row .own 3 (Rw (GFunc.cells .own) funcs_))] = dd (Rw (GProgram.cells .own) (l.set i ⟨funcs_⟩)) := Rw_set (f := (GProgram.cells .own)) l i ⟨funcs_⟩
theorem GProgram_Dset (l : List GProgram) (i : Nat) (funcs_ : (List GFunc)) : (Rw (GProgram.cells .own) l).set i [.row .own 3 (Rw (GFunc.cells .own) funcs_)] = Rw (GProgram.cells .own) (l.set i ⟨funcs_⟩) := (Rw_Dset (f := (GProgram.cells .own)) l i ⟨funcs_⟩)
theorem GProgram_rep (n : Nat) (funcs_ : (List GFunc)) : List.replicate n [.row .own 3 (Rw (GFunc.cells .own) funcs_)] = Rw (GProgram.cells .own) (List.replicate n ⟨funcs_⟩) := Rw_rep (f := (GProgram.cells .own)) n ⟨funcs_⟩
theorem GProgram_lend (m : Md) (l : List GProgram) : D.lendLL (Rw (GProgram.cells m) l) = Rw (GProgram.cells .bor) l := Rw_lend (fun x => by simp only [GProgram.cells, D.lendL, D.lend, Md.lend, GFunc_lend]) l
theorem GProgram_nb (l : List GProgram) : D.nbLL (Rw (GProgram.cells .own) l) = true := Rw_nb (fun x => by simp only [GProgram.cells, D.nbL, D.nb, Md.nb, Bool.and_self, GFunc_nb]) l
theorem GProgram_frz (m : Md) (l : List GProgram) : D.frzLL (Rw (GProgram.cells m) l) = Rw (GProgram.cells m.fz) l := Rw_frz (fun x => by simp only [GProgram.cells, D.frzL, D.frz, GFunc_frz]) l
theorem GProgram_fset (l : List GProgram) (i : Nat) (funcs_ : (List GFunc)) : (dd (Rw (GProgram.cells .frz) l)).set i [V.d (.row .frz 3 (Rw (GFunc.cells .frz) funcs_))] = dd (Rw (GProgram.cells .frz) (l.set i ⟨funcs_⟩)) := Rw_set (f := (GProgram.cells .frz)) l i ⟨funcs_⟩
theorem GProgram_fone (funcs_ : (List GFunc)) : [[.row .frz 3 (Rw (GFunc.cells .frz) funcs_)]] = Rw (GProgram.cells .frz) [⟨funcs_⟩] := rfl
theorem GProgram_fcons (l : List GProgram) (funcs_ : (List GFunc)) : [.row .frz 3 (Rw (GFunc.cells .frz) funcs_)] :: Rw (GProgram.cells .frz) l = Rw (GProgram.cells .frz) (⟨funcs_⟩ :: l) := rfl
theorem GProgram_fdone (funcs_ : (List GFunc)) : [[V.d (.row .frz 3 (Rw (GFunc.cells .frz) funcs_))]] = dd (Rw (GProgram.cells .frz) [⟨funcs_⟩]) := rfl
theorem GProgram_fdcons (l : List GProgram) (funcs_ : (List GFunc)) : [V.d (.row .frz 3 (Rw (GFunc.cells .frz) funcs_))] :: dd (Rw (GProgram.cells .frz) l) = dd (Rw (GProgram.cells .frz) (⟨funcs_⟩ :: l)) := rfl
theorem GProgram_plain (l : List GProgram) : D.plainRows (Rw (GProgram.cells .bor) l) = True := Rw_plain (fun x => by simp [GProgram.cells, D.lin]) l
def GProgram_e := And.intro @GProgram_set <| And.intro @GProgram_rep @GProgram_plain
theorem LcIi64_set (l : List (List Int)) (i : Nat) (x : (List Int)) : (dd (Rw (cL .own 1 (cI .i64)) l)).set i [V.d (.row .own 1 (Rw (cI .i64) x))] = dd (Rw (cL .own 1 (cI .i64)) (l.set i x)) := Rw_set (f := (cL .own 1 (cI .i64))) l i x
theorem LcIi64_Dset (l : List (List Int)) (i : Nat) (x : (List Int)) : (Rw (cL .own 1 (cI .i64)) l).set i [.row .own 1 (Rw (cI .i64) x)] = Rw (cL .own 1 (cI .i64)) (l.set i x) := Rw_Dset (f := (cL .own 1 (cI .i64))) l i x
theorem LcIi64_one (x : (List Int)) : [[.row .own 1 (Rw (cI .i64) x)]] = Rw (cL .own 1 (cI .i64)) [x] := rfl
theorem LcIi64_cons (l : List (List Int)) (x : (List Int)) : [.row .own 1 (Rw (cI .i64) x)] :: Rw (cL .own 1 (cI .i64)) l = Rw (cL .own 1 (cI .i64)) (x :: l) := rfl
theorem LcIi64_done (x : (List Int)) : [[V.d (.row .own 1 (Rw (cI .i64) x))]] = dd (Rw (cL .own 1 (cI .i64)) [x]) := rfl
theorem LcIi64_dcons (l : List (List Int)) (x : (List Int)) : [V.d (.row .own 1 (Rw (cI .i64) x))] :: dd (Rw (cL .own 1 (cI .i64)) l) = dd (Rw (cL .own 1 (cI .i64)) (x :: l)) := rfl
theorem LcIi64_rep (n : Nat) (x : (List Int)) : List.replicate n [.row .own 1 (Rw (cI .i64) x)] = Rw (cL .own 1 (cI .i64)) (List.replicate n x) := Rw_rep (f := (cL .own 1 (cI .i64))) n x
theorem LcIi64_lend (m : Md) (l : List (List Int)) : D.lendLL (Rw (cL m 1 (cI .i64)) l) = Rw (cL .bor 1 (cI .i64)) l := Rw_lend (fun x => by simp only [cL, D.lendL, D.lend, Md.lend, cI_lend]) l
theorem LcIi64_frz (m : Md) (l : List (List Int)) : D.frzLL (Rw (cL m 1 (cI .i64)) l) = Rw (cL m.fz 1 (cI .i64)) l := Rw_frz (fun x => by simp only [cL, D.frzL, D.frz, cI_frz]) l
theorem LcIi64_nb (l : List (List Int)) : D.nbLL (Rw (cL .own 1 (cI .i64)) l) = true := Rw_nb (fun x => by simp only [cL, D.nbL, D.nb, Md.nb, Bool.and_self, cI_nb]) l
theorem LcIi64_plain (l : List (List Int)) : D.plainRows (Rw (cL .bor 1 (cI .i64)) l) = True := Rw_plain (fun x => by simp [cL, D.lin]) l
def LcIi64_e := And.intro @LcIi64_set <| And.intro @LcIi64_rep @LcIi64_plain
def LcIi64_b := And.intro @LcIi64_one <| And.intro @LcIi64_cons <| And.intro @LcIi64_done @LcIi64_dcons
structure GFrame where
  func0 : Int
  pc : Int
  locals : (List Int)
  stack : (List Int)
  deriving DecidableEq
def GFrame.cells (m : Md) (x : GFrame) : List D := [.p (.int .i64 x.func0), .p (.int .i64 x.pc), .row m 1 (Rw (cI .i64) x.locals), .row m 1 (Rw (cI .i64) x.stack)]
theorem GFrame_set (l : List GFrame) (i : Nat) (func0_ : Int) (pc_ : Int) (locals_ : (List Int)) (stack_ : (List Int)) : (dd (Rw (GFrame.cells .own) l)).set i [V.d (.p (.int .i64 func0_)), V.d (.p (.int .i64 pc_)), V.d (.row .own 1 (Rw (cI .i64) locals_)), V.d (.row .own 1 (Rw (cI .i64) stack_))] = dd (Rw (GFrame.cells .own) (l.set i ⟨func0_, pc_, locals_, stack_⟩)) := Rw_set (f := (GFrame.cells .own)) l i ⟨func0_, pc_, locals_, stack_⟩
theorem GFrame_Dset (l : List GFrame) (i : Nat) (func0_ : Int) (pc_ : Int) (locals_ : (List Int)) (stack_ : (List Int)) : (Rw (GFrame.cells .own) l).set i [.p (.int .i64 func0_), .p (.int .i64 pc_), .row .own 1 (Rw (cI .i64) locals_), .row .own 1 (Rw (cI .i64) stack_)] = Rw (GFrame.cells .own) (l.set i ⟨func0_, pc_, locals_, stack_⟩) := (Rw_Dset (f := (GFrame.cells .own)) l i ⟨func0_, pc_, locals_, stack_⟩)
theorem GFrame_one (func0_ : Int) (pc_ : Int) (locals_ : (List Int)) (stack_ : (List Int)) : [[.p (.int .i64 func0_), .p (.int .i64 pc_), .row .own 1 (Rw (cI .i64) locals_), .row .own 1 (Rw (cI .i64) stack_)]] = Rw (GFrame.cells .own) [⟨func0_, pc_, locals_, stack_⟩] := rfl
theorem GFrame_cons (l : List GFrame) (func0_ : Int) (pc_ : Int) (locals_ : (List Int)) (stack_ : (List Int)) : [.p (.int .i64 func0_), .p (.int .i64 pc_), .row .own 1 (Rw (cI .i64) locals_), .row .own 1 (Rw (cI .i64) stack_)] :: Rw (GFrame.cells .own) l = Rw (GFrame.cells .own) (⟨func0_, pc_, locals_, stack_⟩ :: l) := rfl
theorem GFrame_done (func0_ : Int) (pc_ : Int) (locals_ : (List Int)) (stack_ : (List Int)) : [[V.d (.p (.int .i64 func0_)), V.d (.p (.int .i64 pc_)), V.d (.row .own 1 (Rw (cI .i64) locals_)), V.d (.row .own 1 (Rw (cI .i64) stack_))]] = dd (Rw (GFrame.cells .own) [⟨func0_, pc_, locals_, stack_⟩]) := rfl
theorem GFrame_dcons (l : List GFrame) (func0_ : Int) (pc_ : Int) (locals_ : (List Int)) (stack_ : (List Int)) : [V.d (.p (.int .i64 func0_)), V.d (.p (.int .i64 pc_)), V.d (.row .own 1 (Rw (cI .i64) locals_)), V.d (.row .own 1 (Rw (cI .i64) stack_))] :: dd (Rw (GFrame.cells .own) l) = dd (Rw (GFrame.cells .own) (⟨func0_, pc_, locals_, stack_⟩ :: l)) := rfl
theorem GFrame_rep (n : Nat) (func0_ : Int) (pc_ : Int) (locals_ : (List Int)) (stack_ : (List Int)) : List.replicate n [.p (.int .i64 func0_), .p (.int .i64 pc_), .row .own 1 (Rw (cI .i64) locals_), .row .own 1 (Rw (cI .i64) stack_)] = Rw (GFrame.cells .own) (List.replicate n ⟨func0_, pc_, locals_, stack_⟩) := Rw_rep (f := (GFrame.cells .own)) n ⟨func0_, pc_, locals_, stack_⟩
theorem GFrame_lend (m : Md) (l : List GFrame) : D.lendLL (Rw (GFrame.cells m) l) = Rw (GFrame.cells .bor) l := Rw_lend (fun x => by simp only [GFrame.cells, D.lendL, D.lend, Md.lend, cI_lend]) l
theorem GFrame_nb (l : List GFrame) : D.nbLL (Rw (GFrame.cells .own) l) = true := Rw_nb (fun x => by simp only [GFrame.cells, D.nbL, D.nb, Md.nb, Bool.and_self, cI_nb]) l
theorem GFrame_plain (l : List GFrame) : D.plainRows (Rw (GFrame.cells .bor) l) = True := Rw_plain (fun x => by simp [GFrame.cells, D.lin]) l
def GFrame_e := And.intro @GFrame_set <| And.intro @GFrame_rep @GFrame_plain
def GFrame_b := And.intro @GFrame_one <| And.intro @GFrame_cons <| And.intro @GFrame_done @GFrame_dcons
structure GState where
  frames : (List GFrame)
  heap : (List (List Int))
  out : (List Int)
  fuel0 : Int
  done : Bool
  value : Int
  trap : Int
  deriving DecidableEq
def GState.cells (m : Md) (x : GState) : List D := [.row m 4 (Rw (GFrame.cells m) x.frames), .row m 1 (Rw (cL m 1 (cI .i64)) x.heap), .row m 1 (Rw (cI .i64) x.out), .p (.int .i64 x.fuel0), .p (.bool x.done), .p (.int .i64 x.value), .p (.int .i64 x.trap)]
theorem GState_set (l : List GState) (i : Nat) (frames_ : (List GFrame)) (heap_ : (List (List Int))) (out_ : (List Int)) (fuel0_ : Int) (done_ : Bool) (value_ : Int) (trap_ : Int) : (dd (Rw (GState.cells .own) l)).set i [V.d (.row .own 4 (Rw (GFrame.cells .own) frames_)), V.d (.row .own 1 (Rw (cL .own 1 (cI .i64)) heap_)), V.d (.row .own 1 (Rw (cI .i64) out_)), V.d (.p (.int .i64 fuel0_)), V.d (.p (.bool done_)), V.d (.p (.int .i64 value_)), V.d (.p (.int .i64 trap_))] = dd (Rw (GState.cells .own) (l.set i ⟨frames_, heap_, out_, fuel0_, done_, value_, trap_⟩)) := Rw_set (f := (GState.cells .own)) l i ⟨frames_, heap_, out_, fuel0_, done_, value_, trap_⟩
theorem GState_Dset (l : List GState) (i : Nat) (frames_ : (List GFrame)) (heap_ : (List (List Int))) (out_ : (List Int)) (fuel0_ : Int) (done_ : Bool) (value_ : Int) (trap_ : Int) : (Rw (GState.cells .own) l).set i [.row .own 4 (Rw (GFrame.cells .own) frames_), .row .own 1 (Rw (cL .own 1 (cI .i64)) heap_), .row .own 1 (Rw (cI .i64) out_), .p (.int .i64 fuel0_), .p (.bool done_), .p (.int .i64 value_), .p (.int .i64 trap_)] = Rw (GState.cells .own) (l.set i ⟨frames_, heap_, out_, fuel0_, done_, value_, trap_⟩) := (Rw_Dset (f := (GState.cells .own)) l i ⟨frames_, heap_, out_, fuel0_, done_, value_, trap_⟩)
theorem GState_rep (n : Nat) (frames_ : (List GFrame)) (heap_ : (List (List Int))) (out_ : (List Int)) (fuel0_ : Int) (done_ : Bool) (value_ : Int) (trap_ : Int) : List.replicate n [.row .own 4 (Rw (GFrame.cells .own) frames_), .row .own 1 (Rw (cL .own 1 (cI .i64)) heap_), .row .own 1 (Rw (cI .i64) out_), .p (.int .i64 fuel0_), .p (.bool done_), .p (.int .i64 value_), .p (.int .i64 trap_)] = Rw (GState.cells .own) (List.replicate n ⟨frames_, heap_, out_, fuel0_, done_, value_, trap_⟩) := Rw_rep (f := (GState.cells .own)) n ⟨frames_, heap_, out_, fuel0_, done_, value_, trap_⟩
theorem GState_lend (m : Md) (l : List GState) : D.lendLL (Rw (GState.cells m) l) = Rw (GState.cells .bor) l := Rw_lend (fun x => by simp only [GState.cells, D.lendL, D.lend, Md.lend, GFrame_lend, LcIi64_lend, cI_lend]) l
theorem GState_nb (l : List GState) : D.nbLL (Rw (GState.cells .own) l) = true := Rw_nb (fun x => by simp only [GState.cells, D.nbL, D.nb, Md.nb, Bool.and_self, GFrame_nb, LcIi64_nb, cI_nb]) l
theorem GState_plain (l : List GState) : D.plainRows (Rw (GState.cells .bor) l) = True := Rw_plain (fun x => by simp [GState.cells, D.lin]) l
def GState_e := And.intro @GState_set <| And.intro @GState_rep @GState_plain
structure Gprog where
  program : GProgram
  h : (List (List Int))
  deriving DecidableEq
def Gprog.cells (m : Md) (x : Gprog) : List D := [.row m 3 (Rw (GFunc.cells m) x.program.funcs), .row m 1 (Rw (cL m 1 (cI .i64)) x.h)]
theorem Gprog_set (l : List Gprog) (i : Nat) (program_funcs_ : (List GFunc)) (h_ : (List (List Int))) : (dd (Rw (Gprog.cells .own) l)).set i [V.d (.row .own 3 (Rw (GFunc.cells .own) program_funcs_)), V.d (.row .own 1 (Rw (cL .own 1 (cI .i64)) h_))] = dd (Rw (Gprog.cells .own) (l.set i ⟨⟨program_funcs_⟩, h_⟩)) := Rw_set (f := (Gprog.cells .own)) l i ⟨⟨program_funcs_⟩, h_⟩
theorem Gprog_Dset (l : List Gprog) (i : Nat) (program_funcs_ : (List GFunc)) (h_ : (List (List Int))) : (Rw (Gprog.cells .own) l).set i [.row .own 3 (Rw (GFunc.cells .own) program_funcs_), .row .own 1 (Rw (cL .own 1 (cI .i64)) h_)] = Rw (Gprog.cells .own) (l.set i ⟨⟨program_funcs_⟩, h_⟩) := (Rw_Dset (f := (Gprog.cells .own)) l i ⟨⟨program_funcs_⟩, h_⟩)
theorem Gprog_rep (n : Nat) (program_funcs_ : (List GFunc)) (h_ : (List (List Int))) : List.replicate n [.row .own 3 (Rw (GFunc.cells .own) program_funcs_), .row .own 1 (Rw (cL .own 1 (cI .i64)) h_)] = Rw (Gprog.cells .own) (List.replicate n ⟨⟨program_funcs_⟩, h_⟩) := Rw_rep (f := (Gprog.cells .own)) n ⟨⟨program_funcs_⟩, h_⟩
theorem Gprog_lend (m : Md) (l : List Gprog) : D.lendLL (Rw (Gprog.cells m) l) = Rw (Gprog.cells .bor) l := Rw_lend (fun x => by simp only [Gprog.cells, D.lendL, D.lend, Md.lend, GFunc_lend, LcIi64_lend]) l
theorem Gprog_nb (l : List Gprog) : D.nbLL (Rw (Gprog.cells .own) l) = true := Rw_nb (fun x => by simp only [Gprog.cells, D.nbL, D.nb, Md.nb, Bool.and_self, GFunc_nb, LcIi64_nb]) l
theorem Gprog_plain (l : List Gprog) : D.plainRows (Rw (Gprog.cells .bor) l) = True := Rw_plain (fun x => by simp [Gprog.cells, D.lin]) l
def Gprog_e := And.intro @Gprog_set <| And.intro @Gprog_rep @Gprog_plain
structure Gworld where
  heap : (List (List Int))
  out : (List Int)
  fuel0 : Int
  done : Bool
  value : Int
  trap : Int
  deriving DecidableEq
def Gworld.cells (m : Md) (x : Gworld) : List D := [.row m 1 (Rw (cL m 1 (cI .i64)) x.heap), .row m 1 (Rw (cI .i64) x.out), .p (.int .i64 x.fuel0), .p (.bool x.done), .p (.int .i64 x.value), .p (.int .i64 x.trap)]
theorem Gworld_set (l : List Gworld) (i : Nat) (heap_ : (List (List Int))) (out_ : (List Int)) (fuel0_ : Int) (done_ : Bool) (value_ : Int) (trap_ : Int) : (dd (Rw (Gworld.cells .own) l)).set i [V.d (.row .own 1 (Rw (cL .own 1 (cI .i64)) heap_)), V.d (.row .own 1 (Rw (cI .i64) out_)), V.d (.p (.int .i64 fuel0_)), V.d (.p (.bool done_)), V.d (.p (.int .i64 value_)), V.d (.p (.int .i64 trap_))] = dd (Rw (Gworld.cells .own) (l.set i ⟨heap_, out_, fuel0_, done_, value_, trap_⟩)) := Rw_set (f := (Gworld.cells .own)) l i ⟨heap_, out_, fuel0_, done_, value_, trap_⟩
theorem Gworld_Dset (l : List Gworld) (i : Nat) (heap_ : (List (List Int))) (out_ : (List Int)) (fuel0_ : Int) (done_ : Bool) (value_ : Int) (trap_ : Int) : (Rw (Gworld.cells .own) l).set i [.row .own 1 (Rw (cL .own 1 (cI .i64)) heap_), .row .own 1 (Rw (cI .i64) out_), .p (.int .i64 fuel0_), .p (.bool done_), .p (.int .i64 value_), .p (.int .i64 trap_)] = Rw (Gworld.cells .own) (l.set i ⟨heap_, out_, fuel0_, done_, value_, trap_⟩) := (Rw_Dset (f := (Gworld.cells .own)) l i ⟨heap_, out_, fuel0_, done_, value_, trap_⟩)
theorem Gworld_rep (n : Nat) (heap_ : (List (List Int))) (out_ : (List Int)) (fuel0_ : Int) (done_ : Bool) (value_ : Int) (trap_ : Int) : List.replicate n [.row .own 1 (Rw (cL .own 1 (cI .i64)) heap_), .row .own 1 (Rw (cI .i64) out_), .p (.int .i64 fuel0_), .p (.bool done_), .p (.int .i64 value_), .p (.int .i64 trap_)] = Rw (Gworld.cells .own) (List.replicate n ⟨heap_, out_, fuel0_, done_, value_, trap_⟩) := Rw_rep (f := (Gworld.cells .own)) n ⟨heap_, out_, fuel0_, done_, value_, trap_⟩
theorem Gworld_lend (m : Md) (l : List Gworld) : D.lendLL (Rw (Gworld.cells m) l) = Rw (Gworld.cells .bor) l := Rw_lend (fun x => by simp only [Gworld.cells, D.lendL, D.lend, Md.lend, LcIi64_lend, cI_lend]) l
theorem Gworld_nb (l : List Gworld) : D.nbLL (Rw (Gworld.cells .own) l) = true := Rw_nb (fun x => by simp only [Gworld.cells, D.nbL, D.nb, Md.nb, Bool.and_self, LcIi64_nb, cI_nb]) l
theorem Gworld_plain (l : List Gworld) : D.plainRows (Rw (Gworld.cells .bor) l) = True := Rw_plain (fun x => by simp [Gworld.cells, D.lin]) l
def Gworld_e := And.intro @Gworld_set <| And.intro @Gworld_rep @Gworld_plain
structure GI3 where
  a : Int
  b : Int
  c : Int
  deriving DecidableEq
def GI3.cells (x : GI3) : List D := [.p (.int .i64 x.a), .p (.int .i64 x.b), .p (.int .i64 x.c)]
theorem GI3_set (l : List GI3) (i : Nat) (a_ : Int) (b_ : Int) (c_ : Int) : (dd (Rw GI3.cells l)).set i [V.d (.p (.int .i64 a_)), V.d (.p (.int .i64 b_)), V.d (.p (.int .i64 c_))] = dd (Rw GI3.cells (l.set i ⟨a_, b_, c_⟩)) := Rw_set (f := GI3.cells) l i ⟨a_, b_, c_⟩
theorem GI3_Dset (l : List GI3) (i : Nat) (a_ : Int) (b_ : Int) (c_ : Int) : (Rw GI3.cells l).set i [.p (.int .i64 a_), .p (.int .i64 b_), .p (.int .i64 c_)] = Rw GI3.cells (l.set i ⟨a_, b_, c_⟩) := (Rw_Dset (f := GI3.cells) l i ⟨a_, b_, c_⟩)
theorem GI3_rep (n : Nat) (a_ : Int) (b_ : Int) (c_ : Int) : List.replicate n [.p (.int .i64 a_), .p (.int .i64 b_), .p (.int .i64 c_)] = Rw GI3.cells (List.replicate n ⟨a_, b_, c_⟩) := Rw_rep (f := GI3.cells) n ⟨a_, b_, c_⟩
theorem GI3_lend (l : List GI3) : D.lendLL (Rw GI3.cells l) = Rw GI3.cells l := Rw_lend (fun _ => rfl) l
theorem GI3_nb (l : List GI3) : D.nbLL (Rw GI3.cells l) = true := Rw_nb (fun _ => rfl) l
theorem GI3_plain (l : List GI3) : D.plainRows (Rw GI3.cells l) = True := Rw_plain (fun x => by simp [GI3.cells, D.lin]) l
def GI3_e := And.intro @GI3_set <| And.intro @GI3_rep @GI3_plain
structure GerrorAddressString where
  msg : ByteArray
  addr : Int
  deriving DecidableEq
def GerrorAddressString.cells (x : GerrorAddressString) : List D := [.p (.string x.msg), .p (.int .u64 x.addr)]
theorem GerrorAddressString_set (l : List GerrorAddressString) (i : Nat) (msg_ : ByteArray) (addr_ : Int) : (dd (Rw GerrorAddressString.cells l)).set i [V.d (.p (.string msg_)), V.d (.p (.int .u64 addr_))] = dd (Rw GerrorAddressString.cells (l.set i ⟨msg_, addr_⟩)) := Rw_set (f := GerrorAddressString.cells) l i ⟨msg_, addr_⟩
theorem GerrorAddressString_rep (n : Nat) (msg_ : ByteArray) (addr_ : Int) : List.replicate n [.p (.string msg_), .p (.int .u64 addr_)] = Rw GerrorAddressString.cells (List.replicate n ⟨msg_, addr_⟩) := Rw_rep (f := GerrorAddressString.cells) n ⟨msg_, addr_⟩
theorem GerrorAddressString_lend (l : List GerrorAddressString) : D.lendLL (Rw GerrorAddressString.cells l) = Rw GerrorAddressString.cells l := Rw_lend (fun _ => rfl) l
theorem GerrorAddressString_nb (l : List GerrorAddressString) : D.nbLL (Rw GerrorAddressString.cells l) = true := Rw_nb (fun _ => rfl) l
theorem GerrorAddressString_plain (l : List GerrorAddressString) : D.plainRows (Rw GerrorAddressString.cells l) = True := Rw_plain (fun x => by simp [GerrorAddressString.cells, D.lin]) l
def GerrorAddressString_e := And.intro @GerrorAddressString_set <| And.intro @GerrorAddressString_rep @GerrorAddressString_plain
structure Gl03Gen where
  s : Gl01Src
  args : (List Int)
  locals : Int
  code : (List GI2)
  most : Int
  deriving DecidableEq
structure Grun where
  k : Gprog
  frames : (List GFrame)
  world : Gworld
  deriving DecidableEq
theorem ty2 : tyOf Tryz.prog 2 = some ⟨.int IntKind.i64, 1, 8, [Value.int IntKind.i64 0]⟩ := by kernel_rfl
theorem ty3 : tyOf Tryz.prog 3 = some ⟨.int IntKind.i64, 1, 8, [Value.int IntKind.i64 0]⟩ := by kernel_rfl
theorem ty4 : tyOf Tryz.prog 4 = some ⟨.bool, 1, 1, [Value.bool false]⟩ := by kernel_rfl
theorem ty5 : tyOf Tryz.prog 5 = some ⟨.int IntKind.u8, 1, 1, [Value.int IntKind.u8 0]⟩ := by kernel_rfl
theorem ty6 : tyOf Tryz.prog 6 = some ⟨.int IntKind.u8, 1, 1, [Value.int IntKind.u8 0]⟩ := by kernel_rfl
theorem ty9 : tyOf Tryz.prog 9 = some ⟨.str, 1, 16, [Value.string { data := #[] }]⟩ := by kernel_rfl
theorem ty10 : tyOf Tryz.prog 10 = some ⟨.str, 1, 16, [Value.string { data := #[] }]⟩ := by kernel_rfl
theorem ty12 : tyOf Tryz.prog 12 = some ⟨.int IntKind.u64, 1, 8, [Value.int IntKind.u64 0]⟩ := by kernel_rfl
theorem ty14 : tyOf Tryz.prog 14 = some ⟨.struct [(0, 9), (1, 12)], 2, 24, [Value.string { data := #[] }, Value.int IntKind.u64 0]⟩ := by kernel_rfl
theorem ty21 : tyOf Tryz.prog 21 = some ⟨.int IntKind.i32, 1, 4, [Value.int IntKind.i32 0]⟩ := by kernel_rfl
theorem ty22 : tyOf Tryz.prog 22 = some ⟨.slice 5, 1, 24, [Value.slice none 0 0]⟩ := by kernel_rfl
theorem ty23 : tyOf Tryz.prog 23 = some ⟨.slice 94, 1, 24, [Value.slice none 0 0]⟩ := by kernel_rfl
theorem ty25 : tyOf Tryz.prog 25 = some ⟨.struct [(0, 23)], 1, 24, [Value.slice none 0 0]⟩ := by kernel_rfl
theorem ty26 : tyOf Tryz.prog 26 = some ⟨.slice 56, 1, 24, [Value.slice none 0 0]⟩ := by kernel_rfl
theorem ty27 : tyOf Tryz.prog 27 = some ⟨.slice 28, 1, 24, [Value.slice none 0 0]⟩ := by kernel_rfl
theorem ty28 : tyOf Tryz.prog 28 = some ⟨.slice 2, 1, 24, [Value.slice none 0 0]⟩ := by kernel_rfl
theorem ty29 : tyOf Tryz.prog 29 = some ⟨.struct [(0, 26), (1, 27), (2, 28), (3, 2), (4, 4), (5, 2), (6, 2)], 7, 104, [Value.slice none 0 0, Value.slice none 0 0, Value.slice none 0 0, Value.int IntKind.i64 0, Value.bool false, Value.int IntKind.i64 0, Value.int IntKind.i64 0]⟩ := by kernel_rfl
theorem ty30 : tyOf Tryz.prog 30 = some ⟨.struct [(0, 26), (1, 27), (2, 28), (3, 2), (4, 4), (5, 2), (6, 2)], 7, 104, [Value.slice none 0 0, Value.slice none 0 0, Value.slice none 0 0, Value.int IntKind.i64 0, Value.bool false, Value.int IntKind.i64 0, Value.int IntKind.i64 0]⟩ := by kernel_rfl
theorem ty38 : tyOf Tryz.prog 38 = some ⟨.slice 131, 1, 24, [Value.slice none 0 0]⟩ := by kernel_rfl
theorem ty39 : tyOf Tryz.prog 39 = some ⟨.struct [(0, 38)], 1, 24, [Value.slice none 0 0]⟩ := by kernel_rfl
theorem ty56 : tyOf Tryz.prog 56 = some ⟨.struct [(0, 2), (1, 2), (2, 28), (3, 28)], 4, 64, [Value.int IntKind.i64 0, Value.int IntKind.i64 0, Value.slice none 0 0, Value.slice none 0 0]⟩ := by kernel_rfl
theorem ty58 : tyOf Tryz.prog 58 = some ⟨.ptr 102, 1, 8, [Value.pointer none]⟩ := by kernel_rfl
theorem ty63 : tyOf Tryz.prog 63 = some ⟨.ptr 109, 1, 8, [Value.pointer none]⟩ := by kernel_rfl
theorem ty70 : tyOf Tryz.prog 70 = some ⟨.ptr 30, 1, 8, [Value.pointer none]⟩ := by kernel_rfl
theorem ty85 : tyOf Tryz.prog 85 = some ⟨.ptr 140, 1, 8, [Value.pointer none]⟩ := by kernel_rfl
theorem ty90 : tyOf Tryz.prog 90 = some ⟨.struct [(0, 2), (1, 2), (2, 2)], 3, 24, [Value.int IntKind.i64 0, Value.int IntKind.i64 0, Value.int IntKind.i64 0]⟩ := by kernel_rfl
theorem ty92 : tyOf Tryz.prog 92 = some ⟨.slice 98, 1, 24, [Value.slice none 0 0]⟩ := by kernel_rfl
theorem ty94 : tyOf Tryz.prog 94 = some ⟨.struct [(0, 2), (1, 2), (2, 92)], 3, 40, [Value.int IntKind.i64 0, Value.int IntKind.i64 0, Value.slice none 0 0]⟩ := by kernel_rfl
theorem ty98 : tyOf Tryz.prog 98 = some ⟨.struct [(0, 2), (1, 2)], 2, 16, [Value.int IntKind.i64 0, Value.int IntKind.i64 0]⟩ := by kernel_rfl
theorem ty102 : tyOf Tryz.prog 102 = some ⟨.struct [(0, 25), (1, 27)], 2, 48, [Value.slice none 0 0, Value.slice none 0 0]⟩ := by kernel_rfl
theorem ty104 : tyOf Tryz.prog 104 = some ⟨.struct [(0, 27), (1, 28), (2, 2), (3, 4), (4, 2), (5, 2)], 6, 80, [Value.slice none 0 0, Value.slice none 0 0, Value.int IntKind.i64 0, Value.bool false, Value.int IntKind.i64 0, Value.int IntKind.i64 0]⟩ := by kernel_rfl
theorem ty109 : tyOf Tryz.prog 109 = some ⟨.struct [(0, 58), (1, 26), (2, 104)], 8, 112, [Value.pointer none, Value.slice none 0 0, Value.slice none 0 0, Value.slice none 0 0, Value.int IntKind.i64 0, Value.bool false, Value.int IntKind.i64 0, Value.int IntKind.i64 0]⟩ := by kernel_rfl
theorem ty111 : tyOf Tryz.prog 111 = some ⟨.ptr 56, 1, 8, [Value.pointer none]⟩ := by kernel_rfl
theorem ty120 : tyOf Tryz.prog 120 = some ⟨.struct [(0, 2), (1, 2)], 2, 16, [Value.int IntKind.i64 0, Value.int IntKind.i64 0]⟩ := by kernel_rfl
theorem ty126 : tyOf Tryz.prog 126 = some ⟨.ptr 27, 1, 8, [Value.pointer none]⟩ := by kernel_rfl
theorem ty129 : tyOf Tryz.prog 129 = some ⟨.slice 183, 1, 24, [Value.slice none 0 0]⟩ := by kernel_rfl
theorem ty131 : tyOf Tryz.prog 131 = some ⟨.struct [(0, 2), (1, 2), (2, 129)], 3, 40, [Value.int IntKind.i64 0, Value.int IntKind.i64 0, Value.slice none 0 0]⟩ := by kernel_rfl
theorem ty138 : tyOf Tryz.prog 138 = some ⟨.int IntKind.u64, 1, 8, [Value.int IntKind.u64 0]⟩ := by kernel_rfl
theorem ty140 : tyOf Tryz.prog 140 = some ⟨.struct [(0, 22), (1, 3), (2, 138), (3, 2)], 4, 48, [Value.slice none 0 0, Value.int IntKind.i64 0, Value.int IntKind.u64 0, Value.int IntKind.i64 0]⟩ := by kernel_rfl
theorem ty142 : tyOf Tryz.prog 142 = some ⟨.ptr 145, 1, 8, [Value.pointer none]⟩ := by kernel_rfl
theorem ty145 : tyOf Tryz.prog 145 = some ⟨.struct [(0, 85), (1, 28), (2, 2), (3, 92), (4, 3)], 5, 72, [Value.pointer none, Value.slice none 0 0, Value.int IntKind.i64 0, Value.slice none 0 0, Value.int IntKind.i64 0]⟩ := by kernel_rfl
theorem ty149 : tyOf Tryz.prog 149 = some ⟨.ptr 25, 1, 8, [Value.pointer none]⟩ := by kernel_rfl
theorem ty154 : tyOf Tryz.prog 154 = some ⟨.slice 4, 1, 24, [Value.slice none 0 0]⟩ := by kernel_rfl
theorem ty163 : tyOf Tryz.prog 163 = some ⟨.ptr 104, 1, 8, [Value.pointer none]⟩ := by kernel_rfl
theorem ty171 : tyOf Tryz.prog 171 = some ⟨.int IntKind.u64, 1, 8, [Value.int IntKind.u64 0]⟩ := by kernel_rfl
theorem ty179 : tyOf Tryz.prog 179 = some ⟨.int IntKind.i8, 1, 1, [Value.int IntKind.i8 0]⟩ := by kernel_rfl
theorem ty180 : tyOf Tryz.prog 180 = some ⟨.int IntKind.i16, 1, 2, [Value.int IntKind.i16 0]⟩ := by kernel_rfl
theorem ty181 : tyOf Tryz.prog 181 = some ⟨.int IntKind.u32, 1, 4, [Value.int IntKind.u32 0]⟩ := by kernel_rfl
theorem ty183 : tyOf Tryz.prog 183 = some ⟨.struct [(0, 2), (1, 2)], 2, 16, [Value.int IntKind.i64 0, Value.int IntKind.i64 0]⟩ := by kernel_rfl
theorem ty185 : tyOf Tryz.prog 185 = some ⟨.slice 9, 1, 24, [Value.slice none 0 0]⟩ := by kernel_rfl
end Go.Proofs.YtdlaplgofgklnaaGreat
namespace Go.Proofs.YtdlaplgofgklnaaGreat.L
set_option linter.unusedVariables false
set_option linter.unusedSimpArgs false
structure Fn (n : Nat) : Prop
theorem fi (n : Nat) {G : Prop} (_ : Fn n) (h : G) : G := h
theorem mkf (n : Nat) {G : Prop} (h : Fn n → G) : G := h ⟨⟩
theorem isf {P : Program} (f : FuncId) {a : List V} {o : List C} {v : V} {o2 : List C} (h : Con P f a o v o2) : Con P f a o v o2 := h
section
variable {P : Program} {T : Nat} {st : SL} {n m mx : Nat} {Q : Exit → SL → Nat → Prop} {ι : Type} {S : ι → SL} {μ : ι → Nat} {J : ι → Prop}
theorem pnR {N0 : Nat} (h : Q .ret st n) : seqQ Q (fun st1 n1 => Gh st1 n1 (NextS m N0 S μ J mx)) .ret st n := h
theorem pnE {N0 : Nat} {i : Nat} (h : Q (.exit i) st n) : seqQ Q (fun st1 n1 => Gh st1 n1 (NextS m N0 S μ J mx)) (.exit i) st n := h
theorem pmR {N0 : Nat} (h : Q .ret st n) : seqQ Q (fun st1 n1 => Gh st1 n1 (MeetA m N0 S J)) .ret st n := h
theorem pmE {N0 : Nat} {i : Nat} (h : Q (.exit i) st n) : seqQ Q (fun st1 n1 => Gh st1 n1 (MeetA m N0 S J)) (.exit i) st n := h
end
section
variable {P : Program} {T : Nat} {st : SL} {n : Nat} {Q : Exit → SL → Nat → Prop}
theorem lpA {c : Code} {β : Type} (N0 : Nat) (S : Nat × β → SL) (J : Nat × β → Prop) (x0 : Nat × β) (hx0 : J x0)
    (round : ∀ x, J x → sw P T c (S x) N0 (seqQ Q fun st1 n1 => Gh st1 n1 (NextS n N0 S (fun x => x.1) J x.1))) (hn : n ≤ N0 := by decide)
    (hN : slNL N0 (S x0) := by simp [slNL, C.inN, V.inN, V.inNs, V.inNss, inNss_dd, inNs_map_d])
    (h0 : SubL (S x0) st := by (simp only [SubL, putSt, lk, lkb, reduceCtorEq, Nat.reduceEqDiff, List.length_set, List.length_replicate]; repeat' (first | apply And.intro | rfl | trivial | (simp only [*]; done)))) :
    sw P T (.loop c) st n Q := sw_loop N0 hn S (fun x => x.1) J x0 hN hx0 h0 round
theorem nxA {β : Type} {S : Nat × β → SL} {J : Nat × β → Prop} {mx n' N0 : Nat} (y : Nat × β) (hy : J y) (hlt : y.1 < mx := by exact Nat.lt_succ_self _) (hn : n ≤ N0 := by decide)
    (hN : slNL N0 (S y) := by simp [slNL, C.inN, V.inN, V.inNs, V.inNss, inNss_dd, inNs_map_d])
    (hs : SubL (S y) st := by (simp only [SubL, putSt, lk, lkb, reduceCtorEq, Nat.reduceEqDiff, List.length_set, List.length_replicate]; repeat' (first | apply And.intro | rfl | trivial | (simp only [*]; done)))) :
    Gh st n' (NextS n N0 S (fun x => x.1) J mx) := nexts_to (μ := fun x => x.1) y hn hN hlt hy hs
theorem mtA {ι : Type} {S : ι → SL} {J : ι → Prop} {n' N0 : Nat} (y : ι) (hy : J y) (hn : n ≤ N0 := by decide)
    (hN : slNL N0 (S y) := by simp [slNL, C.inN, V.inN, V.inNs, V.inNss, inNss_dd, inNs_map_d])
    (hs : SubL (S y) st := by (simp only [SubL, putSt, lk, lkb, reduceCtorEq, Nat.reduceEqDiff, List.length_set, List.length_replicate]; repeat' (first | apply And.intro | rfl | trivial | (simp only [*]; done)))) :
    Gh st n' (MeetA n N0 S J) := meet_to y hn hN hy hs
end
end Go.Proofs.YtdlaplgofgklnaaGreat.L