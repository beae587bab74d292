/- WHAT IS PROVED: an abstract walker over the model, what some functions of the program answer, and laws of these answers. Conditions: none. -/
import Derived.Test.YtdlaplgofgklnaaDoorKd3
import Derived.Test.YtdlaplgofgklnaaDoorRows
import Derived.KernelRfl
import Derived.Shelf.LaysM
import Derived.Shelf.Strconv.Itoa4
import Derived.Test.YtdlaplgofgklnaaDoorProg
namespace Go.Proofs.YtdlaplgofgklnaaDoor
open Go.Proofs Go.Proofs.YtdlaplgofgklnaaDoor.L
set_option maxHeartbeats 400000
set_option linter.unusedSimpArgs false
set_option linter.unusedVariables false
set_option maxRecDepth 100000
set_option linter.defProp false
theorem mixed : Tryd.prog.follows .mixedOrders = true := by kernel_rfl
structure GI2 where
  a : Int
  b : Int
  deriving DecidableEq
def GI2.cells (x : GI2) : List D := [.p (.int .i64 x.a), .p (.int .i64 x.b)]
theorem GI2_set (l : List GI2) (i : Nat) (a_ : Int) (b_ : Int) : (dd (Rw GI2.cells l)).set i [V.d (.p (.int .i64 a_)), V.d (.p (.int .i64 b_))] = dd (Rw GI2.cells (l.set i ⟨a_, b_⟩)) := Rw_set (f := GI2.cells) l i ⟨a_, b_⟩
theorem GI2_Dset (l : List GI2) (i : Nat) (a_ : Int) (b_ : Int) : (Rw GI2.cells l).set i [.p (.int .i64 a_), .p (.int .i64 b_)] = Rw GI2.cells (l.set i ⟨a_, b_⟩) := (Rw_Dset (f := GI2.cells) l i ⟨a_, b_⟩)
theorem GI2_rep (n : Nat) (a_ : Int) (b_ : Int) : List.replicate n [.p (.int .i64 a_), .p (.int .i64 b_)] = Rw GI2.cells (List.replicate n ⟨a_, b_⟩) := Rw_rep (f := GI2.cells) n ⟨a_, b_⟩
theorem GI2_lend (l : List GI2) : D.lendLL (Rw GI2.cells l) = Rw GI2.cells l := Rw_lend (fun _ => rfl) l
theorem GI2_nb (l : List GI2) : D.nbLL (Rw GI2.cells l) = true := Rw_nb (fun _ => rfl) l
theorem GI2_plain (l : List GI2) : D.plainRows (Rw GI2.cells l) = True := Rw_plain (fun x => by simp [GI2.cells, D.lin]) l
def GI2_e := And.intro @GI2_set <| And.intro @GI2_rep @GI2_plain
structure Gl01Src where
  b : (List Int)
  at0 : Int
  mix : Int
  size : Int
  deriving DecidableEq
def Gl01Src.cells (m : Md) (x : Gl01Src) : List D := [.row m 1 (Rw (cI .u8) x.b), .p (.int .i64 x.at0), .p (.int .u64 x.mix), .p (.int .i64 x.size)]
theorem Gl01Src_set (l : List Gl01Src) (i : Nat) (b_ : (List Int)) (at0_ : Int) (mix_ : Int) (size_ : Int) : (dd (Rw (Gl01Src.cells .own) l)).set i [V.d (.row .own 1 (Rw (cI .u8) b_)), V.d (.p (.int .i64 at0_)), V.d (.p (.int .u64 mix_)), V.d (.p (.int .i64 size_))] = dd (Rw (Gl01Src.cells .own) (l.set i ⟨b_, at0_, mix_, size_⟩)) := Rw_set (f := (Gl01Src.cells .own)) l i ⟨b_, at0_, mix_, size_⟩
theorem Gl01Src_rep (n : Nat) (b_ : (List Int)) (at0_ : Int) (mix_ : Int) (size_ : Int) : List.replicate n [.row .own 1 (Rw (cI .u8) b_), .p (.int .i64 at0_), .p (.int .u64 mix_), .p (.int .i64 size_)] = Rw (Gl01Src.cells .own) (List.replicate n ⟨b_, at0_, mix_, size_⟩) := Rw_rep (f := (Gl01Src.cells .own)) n ⟨b_, at0_, mix_, size_⟩
theorem Gl01Src_lend (m : Md) (l : List Gl01Src) : D.lendLL (Rw (Gl01Src.cells m) l) = Rw (Gl01Src.cells .bor) l := Rw_lend (fun x => by simp only [Gl01Src.cells, D.lendL, D.lend, Md.lend, cI_lend]) l
theorem Gl01Src_nb (l : List Gl01Src) : D.nbLL (Rw (Gl01Src.cells .own) l) = true := Rw_nb (fun x => by simp only [Gl01Src.cells, D.nbL, D.nb, Md.nb, Bool.and_self, cI_nb]) l
theorem Gl01Src_plain (l : List Gl01Src) : D.plainRows (Rw (Gl01Src.cells .bor) l) = True := Rw_plain (fun x => by simp [Gl01Src.cells, D.lin]) l
def Gl01Src_e := And.intro @Gl01Src_set <| And.intro @Gl01Src_rep @Gl01Src_plain
structure GFunc where
  args : Int
  locals : Int
  code : (List GI2)
  deriving DecidableEq
def GFunc.cells (m : Md) (x : GFunc) : List D := [.p (.int .i64 x.args), .p (.int .i64 x.locals), .row m 2 (Rw GI2.cells x.code)]
theorem GFunc_set (l : List GFunc) (i : Nat) (args_ : Int) (locals_ : Int) (code_ : (List GI2)) : (dd (Rw (GFunc.cells .own) l)).set i [V.d (.p (.int .i64 args_)), V.d (.p (.int .i64 locals_)), V.d (.row .own 2 (Rw GI2.cells code_))] = dd (Rw (GFunc.cells .own) (l.set i ⟨args_, locals_, code_⟩)) := Rw_set (f := (GFunc.cells .own)) l i ⟨args_, locals_, code_⟩
theorem GFunc_Dset (l : List GFunc) (i : Nat) (args_ : Int) (locals_ : Int) (code_ : (List GI2)) : (Rw (GFunc.cells .own) l).set i [.p (.int .i64 args_), .p (.int .i64 locals_), .row .own 2 (Rw GI2.cells code_)] = Rw (GFunc.cells .own) (l.set i ⟨args_, locals_, code_⟩) := (Rw_Dset (f := (GFunc.cells .own)) l i ⟨args_, locals_, code_⟩)
theorem GFunc_rep (n : Nat) (args_ : Int) (locals_ : Int) (code_ : (List GI2)) : List.replicate n [.p (.int .i64 args_), .p (.int .i64 locals_), .row .own 2 (Rw GI2.cells code_)] = Rw (GFunc.cells .own) (List.replicate n ⟨args_, locals_, code_⟩) := Rw_rep (f := (GFunc.cells .own)) n ⟨args_, locals_, code_⟩
theorem GFunc_lend (m : Md) (l : List GFunc) : D.lendLL (Rw (GFunc.cells m) l) = Rw (GFunc.cells .bor) l := Rw_lend (fun x => by simp only [GFunc.cells, D.lendL, D.lend, Md.lend, GI2_lend]) l
theorem GFunc_nb (l : List GFunc) : D.nbLL (Rw (GFunc.cells .own) l) = true := Rw_nb (fun x => by simp only [GFunc.cells, D.nbL, D.nb, Md.nb, Bool.and_self, GI2_nb]) l
theorem GFunc_plain (l : List GFunc) : D.plainRows (Rw (GFunc.cells .bor) l) = True := Rw_plain (fun x => by simp [GFunc.cells, D.lin]) l
def GFunc_e := And.intro @GFunc_set <| And.intro @GFunc_rep @GFunc_plain
structure GProgram where
  funcs : (List GFunc)
  deriving DecidableEq
def GProgram.cells (m : Md) (x : GProgram) : List D := [.row m 3 (Rw (GFunc.cells m) x.funcs)]
theorem GProgram_set (l : List GProgram) (i : Nat) (funcs_ : (List GFunc)) : (dd (Rw (GProgram.cells .own) l)).set i [V.d (.row .own 3 (Rw (GFunc.cells .own) funcs_))] = dd (Rw (GProgram.cells .own) (l.set i ⟨funcs_⟩)) := Rw_set (f := (GProgram.cells .own)) l i ⟨funcs_⟩
theorem GProgram_Dset (l : List GProgram) (i : Nat) (funcs_ : (List GFunc)) : (Rw (GProgram.cells .own) l).set i [.row .own 3 (Rw (GFunc.cells .own) funcs_)] = Rw (GProgram.cells .own) (l.set i ⟨funcs_⟩) := (Rw_Dset (f := (GProgram.cells .own)) l i ⟨funcs_⟩)
theorem GProgram_rep (n : Nat) (funcs_ : (List GFunc)) : List.replicate n [.row .own 3 (Rw (GFunc.cells .own) funcs_)] = Rw (GProgram.cells .own) (List.replicate n ⟨funcs_⟩) := Rw_rep (f := (GProgram.cells .own)) n ⟨funcs_⟩
theorem GProgram_lend (m : Md) (l : List GProgram) : D.lendLL (Rw (GProgram.cells m) l) = Rw (GProgram.cells .bor) l := Rw_lend (fun x => by simp only [GProgram.cells, D.lendL, D.lend, Md.lend, GFunc_lend]) l
theorem GProgram_nb (l : List GProgram) : D.nbLL (Rw (GProgram.cells .own) l) = true := Rw_nb (fun x => by simp only [GProgram.cells, D.nbL, D.nb, Md.nb, Bool.and_self, GFunc_nb]) l
theorem GProgram_plain (l : List GProgram) : D.plainRows (Rw (GProgram.cells .bor) l) = True := Rw_plain (fun x => by simp [GProgram.cells, D.lin]) l
def GProgram_e := And.intro @GProgram_set <| And.intro @GProgram_rep @GProgram_plain
structure GI3 where
  a : Int
  b : Int
  c : Int
  deriving DecidableEq
def GI3.cells (x : GI3) : List D := [.p (.int .i64 x.a), .p (.int .i64 x.b), .p (.int .i64 x.c)]
theorem GI3_set (l : List GI3) (i : Nat) (a_ : Int) (b_ : Int) (c_ : Int) : (dd (Rw GI3.cells l)).set i [V.d (.p (.int .i64 a_)), V.d (.p (.int .i64 b_)), V.d (.p (.int .i64 c_))] = dd (Rw GI3.cells (l.set i ⟨a_, b_, c_⟩)) := Rw_set (f := GI3.cells) l i ⟨a_, b_, c_⟩
theorem GI3_Dset (l : List GI3) (i : Nat) (a_ : Int) (b_ : Int) (c_ : Int) : (Rw GI3.cells l).set i [.p (.int .i64 a_), .p (.int .i64 b_), .p (.int .i64 c_)] = Rw GI3.cells (l.set i ⟨a_, b_, c_⟩) := (Rw_Dset (f := GI3.cells) l i ⟨a_, b_, c_⟩)
theorem GI3_rep (n : Nat) (a_ : Int) (b_ : Int) (c_ : Int) : List.replicate n [.p (.int .i64 a_), .p (.int .i64 b_), .p (.int .i64 c_)] = Rw GI3.cells (List.replicate n ⟨a_, b_, c_⟩) := Rw_rep (f := GI3.cells) n ⟨a_, b_, c_⟩
theorem GI3_lend (l : List GI3) : D.lendLL (Rw GI3.cells l) = Rw GI3.cells l := Rw_lend (fun _ => rfl) l
theorem GI3_nb (l : List GI3) : D.nbLL (Rw GI3.cells l) = true := Rw_nb (fun _ => rfl) l
theorem GI3_plain (l : List GI3) : D.plainRows (Rw GI3.cells l) = True := Rw_plain (fun x => by simp [GI3.cells, D.lin]) l
def GI3_e := And.intro @GI3_set <| And.intro @GI3_rep @GI3_plain
theorem LcIi64_set (l : List (List Int)) (i : Nat) (x : (List Int)) : (dd (Rw (cL .own 1 (cI .i64)) l)).set i [V.d (.row .own 1 (Rw (cI .i64) x))] = dd (Rw (cL .own 1 (cI .i64)) (l.set i x)) := Rw_set (f := (cL .own 1 (cI .i64))) l i x
theorem LcIi64_Dset (l : List (List Int)) (i : Nat) (x : (List Int)) : (Rw (cL .own 1 (cI .i64)) l).set i [.row .own 1 (Rw (cI .i64) x)] = Rw (cL .own 1 (cI .i64)) (l.set i x) := Rw_Dset (f := (cL .own 1 (cI .i64))) l i x
theorem LcIi64_one (x : (List Int)) : [[.row .own 1 (Rw (cI .i64) x)]] = Rw (cL .own 1 (cI .i64)) [x] := rfl
theorem LcIi64_cons (l : List (List Int)) (x : (List Int)) : [.row .own 1 (Rw (cI .i64) x)] :: Rw (cL .own 1 (cI .i64)) l = Rw (cL .own 1 (cI .i64)) (x :: l) := rfl
theorem LcIi64_done (x : (List Int)) : [[V.d (.row .own 1 (Rw (cI .i64) x))]] = dd (Rw (cL .own 1 (cI .i64)) [x]) := rfl
theorem LcIi64_dcons (l : List (List Int)) (x : (List Int)) : [V.d (.row .own 1 (Rw (cI .i64) x))] :: dd (Rw (cL .own 1 (cI .i64)) l) = dd (Rw (cL .own 1 (cI .i64)) (x :: l)) := rfl
theorem LcIi64_rep (n : Nat) (x : (List Int)) : List.replicate n [.row .own 1 (Rw (cI .i64) x)] = Rw (cL .own 1 (cI .i64)) (List.replicate n x) := Rw_rep (f := (cL .own 1 (cI .i64))) n x
theorem LcIi64_lend (m : Md) (l : List (List Int)) : D.lendLL (Rw (cL m 1 (cI .i64)) l) = Rw (cL .bor 1 (cI .i64)) l := Rw_lend (fun x => by simp only [cL, D.lendL, D.lend, Md.lend, cI_lend]) l
theorem LcIi64_nb (l : List (List Int)) : D.nbLL (Rw (cL .own 1 (cI .i64)) l) = true := Rw_nb (fun x => by simp only [cL, D.nbL, D.nb, Md.nb, Bool.and_self, cI_nb]) l
theorem LcIi64_plain (l : List (List Int)) : D.plainRows (Rw (cL .bor 1 (cI .i64)) l) = True := Rw_plain (fun x => by simp [cL, D.lin]) l
def LcIi64_e := And.intro @LcIi64_set <| And.intro @LcIi64_rep @LcIi64_plain
def LcIi64_b := And.intro @LcIi64_one <| And.intro @LcIi64_cons <| And.intro @LcIi64_done @LcIi64_dcons
structure Gprog where
  program : GProgram
  h : (List (List Int))
  deriving DecidableEq
def Gprog.cells (m : Md) (x : Gprog) : List D := [.row m 3 (Rw (GFunc.cells m) x.program.funcs), .row m 1 (Rw (cL m 1 (cI .i64)) x.h)]
theorem Gprog_set (l : List Gprog) (i : Nat) (program_funcs_ : (List GFunc)) (h_ : (List (List Int))) : (dd (Rw (Gprog.cells .own) l)).set i [V.d (.row .own 3 (Rw (GFunc.cells .own) program_funcs_)), V.d (.row .own 1 (Rw (cL .own 1 (cI .i64)) h_))] = dd (Rw (Gprog.cells .own) (l.set i ⟨⟨program_funcs_⟩, h_⟩)) := Rw_set (f := (Gprog.cells .own)) l i ⟨⟨program_funcs_⟩, h_⟩
theorem Gprog_rep (n : Nat) (program_funcs_ : (List GFunc)) (h_ : (List (List Int))) : List.replicate n [.row .own 3 (Rw (GFunc.cells .own) program_funcs_), .row .own 1 (Rw (cL .own 1 (cI .i64)) h_)] = Rw (Gprog.cells .own) (List.replicate n ⟨⟨program_funcs_⟩, h_⟩) := Rw_rep (f := (Gprog.cells .own)) n ⟨⟨program_funcs_⟩, h_⟩
theorem Gprog_plain (l : List Gprog) : D.plainRows (Rw (Gprog.cells .bor) l) = True := Rw_plain (fun x => by simp [Gprog.cells, D.lin]) l
def Gprog_e := And.intro @Gprog_set <| And.intro @Gprog_rep @Gprog_plain
structure GerrorAddressString where
  msg : ByteArray
  addr : Int
  deriving DecidableEq
def GerrorAddressString.cells (x : GerrorAddressString) : List D := [.p (.string x.msg), .p (.int .u64 x.addr)]
theorem GerrorAddressString_set (l : List GerrorAddressString) (i : Nat) (msg_ : ByteArray) (addr_ : Int) : (dd (Rw GerrorAddressString.cells l)).set i [V.d (.p (.string msg_)), V.d (.p (.int .u64 addr_))] = dd (Rw GerrorAddressString.cells (l.set i ⟨msg_, addr_⟩)) := Rw_set (f := GerrorAddressString.cells) l i ⟨msg_, addr_⟩
theorem GerrorAddressString_rep (n : Nat) (msg_ : ByteArray) (addr_ : Int) : List.replicate n [.p (.string msg_), .p (.int .u64 addr_)] = Rw GerrorAddressString.cells (List.replicate n ⟨msg_, addr_⟩) := Rw_rep (f := GerrorAddressString.cells) n ⟨msg_, addr_⟩
theorem GerrorAddressString_lend (l : List GerrorAddressString) : D.lendLL (Rw GerrorAddressString.cells l) = Rw GerrorAddressString.cells l := Rw_lend (fun _ => rfl) l
theorem GerrorAddressString_nb (l : List GerrorAddressString) : D.nbLL (Rw GerrorAddressString.cells l) = true := Rw_nb (fun _ => rfl) l
theorem GerrorAddressString_plain (l : List GerrorAddressString) : D.plainRows (Rw GerrorAddressString.cells l) = True := Rw_plain (fun x => by simp [GerrorAddressString.cells, D.lin]) l
def GerrorAddressString_e := And.intro @GerrorAddressString_set <| And.intro @GerrorAddressString_rep @GerrorAddressString_plain
theorem ty2 : tyOf Tryd.prog 2 = some ⟨.int IntKind.i64, 1, 8, [Value.int IntKind.i64 0]⟩ := by kernel_rfl
theorem ty3 : tyOf Tryd.prog 3 = some ⟨.int IntKind.i64, 1, 8, [Value.int IntKind.i64 0]⟩ := by kernel_rfl
theorem ty4 : tyOf Tryd.prog 4 = some ⟨.bool, 1, 1, [Value.bool false]⟩ := by kernel_rfl
theorem ty5 : tyOf Tryd.prog 5 = some ⟨.int IntKind.u8, 1, 1, [Value.int IntKind.u8 0]⟩ := by kernel_rfl
theorem ty9 : tyOf Tryd.prog 9 = some ⟨.str, 1, 16, [Value.string { data := #[] }]⟩ := by kernel_rfl
theorem ty10 : tyOf Tryd.prog 10 = some ⟨.str, 1, 16, [Value.string { data := #[] }]⟩ := by kernel_rfl
theorem ty12 : tyOf Tryd.prog 12 = some ⟨.int IntKind.u64, 1, 8, [Value.int IntKind.u64 0]⟩ := by kernel_rfl
theorem ty14 : tyOf Tryd.prog 14 = some ⟨.struct [(0, 9), (1, 12)], 2, 24, [Value.string { data := #[] }, Value.int IntKind.u64 0]⟩ := by kernel_rfl
theorem ty23 : tyOf Tryd.prog 23 = some ⟨.struct [(0, 2), (1, 2)], 2, 16, [Value.int IntKind.i64 0, Value.int IntKind.i64 0]⟩ := by kernel_rfl
theorem ty25 : tyOf Tryd.prog 25 = some ⟨.struct [(0, 2), (1, 2)], 2, 16, [Value.int IntKind.i64 0, Value.int IntKind.i64 0]⟩ := by kernel_rfl
theorem ty28 : tyOf Tryd.prog 28 = some ⟨.slice 5, 1, 24, [Value.slice none 0 0]⟩ := by kernel_rfl
theorem ty31 : tyOf Tryd.prog 31 = some ⟨.slice 70, 1, 24, [Value.slice none 0 0]⟩ := by kernel_rfl
theorem ty33 : tyOf Tryd.prog 33 = some ⟨.struct [(0, 31)], 1, 24, [Value.slice none 0 0]⟩ := by kernel_rfl
theorem ty36 : tyOf Tryd.prog 36 = some ⟨.slice 54, 1, 24, [Value.slice none 0 0]⟩ := by kernel_rfl
theorem ty38 : tyOf Tryd.prog 38 = some ⟨.struct [(0, 36)], 1, 24, [Value.slice none 0 0]⟩ := by kernel_rfl
theorem ty45 : tyOf Tryd.prog 45 = some ⟨.ptr 64, 1, 8, [Value.pointer none]⟩ := by kernel_rfl
theorem ty52 : tyOf Tryd.prog 52 = some ⟨.slice 56, 1, 24, [Value.slice none 0 0]⟩ := by kernel_rfl
theorem ty54 : tyOf Tryd.prog 54 = some ⟨.struct [(0, 2), (1, 2), (2, 52)], 3, 40, [Value.int IntKind.i64 0, Value.int IntKind.i64 0, Value.slice none 0 0]⟩ := by kernel_rfl
theorem ty56 : tyOf Tryd.prog 56 = some ⟨.struct [(0, 2), (1, 2)], 2, 16, [Value.int IntKind.i64 0, Value.int IntKind.i64 0]⟩ := by kernel_rfl
theorem ty58 : tyOf Tryd.prog 58 = some ⟨.ptr 80, 1, 8, [Value.pointer none]⟩ := by kernel_rfl
theorem ty62 : tyOf Tryd.prog 62 = some ⟨.int IntKind.u64, 1, 8, [Value.int IntKind.u64 0]⟩ := by kernel_rfl
theorem ty64 : tyOf Tryd.prog 64 = some ⟨.struct [(0, 28), (1, 3), (2, 62), (3, 2)], 4, 48, [Value.slice none 0 0, Value.int IntKind.i64 0, Value.int IntKind.u64 0, Value.int IntKind.i64 0]⟩ := by kernel_rfl
theorem ty66 : tyOf Tryd.prog 66 = some ⟨.slice 2, 1, 24, [Value.slice none 0 0]⟩ := by kernel_rfl
theorem ty68 : tyOf Tryd.prog 68 = some ⟨.slice 96, 1, 24, [Value.slice none 0 0]⟩ := by kernel_rfl
theorem ty70 : tyOf Tryd.prog 70 = some ⟨.struct [(0, 2), (1, 2), (2, 68)], 3, 40, [Value.int IntKind.i64 0, Value.int IntKind.i64 0, Value.slice none 0 0]⟩ := by kernel_rfl
theorem ty72 : tyOf Tryd.prog 72 = some ⟨.struct [(0, 2), (1, 2), (2, 2)], 3, 24, [Value.int IntKind.i64 0, Value.int IntKind.i64 0, Value.int IntKind.i64 0]⟩ := by kernel_rfl
theorem ty74 : tyOf Tryd.prog 74 = some ⟨.slice 9, 1, 24, [Value.slice none 0 0]⟩ := by kernel_rfl
theorem ty76 : tyOf Tryd.prog 76 = some ⟨.slice 66, 1, 24, [Value.slice none 0 0]⟩ := by kernel_rfl
theorem ty80 : tyOf Tryd.prog 80 = some ⟨.struct [(0, 38), (1, 76)], 2, 48, [Value.slice none 0 0, Value.slice none 0 0]⟩ := by kernel_rfl
theorem ty96 : tyOf Tryd.prog 96 = some ⟨.struct [(0, 2), (1, 2)], 2, 16, [Value.int IntKind.i64 0, Value.int IntKind.i64 0]⟩ := by kernel_rfl
theorem ty98 : tyOf Tryd.prog 98 = some ⟨.slice 4, 1, 24, [Value.slice none 0 0]⟩ := by kernel_rfl
end Go.Proofs.YtdlaplgofgklnaaDoor
namespace Go.Proofs
open Go.Shelf Go.Sort Go.Lib
def Tryd.laysM173_ren : Go.Shelf.Ren := ⟨fun | 173 => 41 | 246 => 50 | 283 => 59 | 284 => 60 | 285 => 61 | 286 => 62 | 129 => 71 | 317 => 70 | 318 => 72 | 319 => 73 | 320 => 74 | 337 => 77 | 338 => 78 | n => n, fun | 2 => 2 | 3 => 3 | 9 => 9 | 4 => 4 | 171 => 103 | 0 => 0 | 53 => 62 | 37 => 28 | 5 => 5 | 173 => 106 | 212 => 112 | 51 => 113 | 20 => 20 | 213 => 114 | 46 => 85 | 232 => 118 | 233 => 119 | n => n, fun | 17 => 0 | 18 => 1 | 19 => 2 | n => n⟩
theorem Tryd.laysM173 : Go.Proofs.LaysM.n173 Tryd.prog Tryd.laysM173_ren := {
  mixed := by kernel_rfl
  f129 := Tryd.func71.trans (congrArg some (by kernel_rfl))
  f173 := Tryd.func41.trans (congrArg some (by kernel_rfl))
  f246 := Tryd.func50.trans (congrArg some (by kernel_rfl))
  f283 := Tryd.func59.trans (congrArg some (by kernel_rfl))
  f284 := Tryd.func60.trans (congrArg some (by kernel_rfl))
  f285 := Tryd.func61.trans (congrArg some (by kernel_rfl))
  f286 := Tryd.func62.trans (congrArg some (by kernel_rfl))
  f317 := Tryd.func70.trans (congrArg some (by kernel_rfl))
  f318 := Tryd.func72.trans (congrArg some (by kernel_rfl))
  f319 := Tryd.func73.trans (congrArg some (by kernel_rfl))
  f320 := Tryd.func74.trans (congrArg some (by kernel_rfl))
  f337 := Tryd.func77.trans (congrArg some (by kernel_rfl))
  f338 := Tryd.func78.trans (congrArg some (by kernel_rfl))
  t0 := Tryd.underlying0
  a0 := Tryd.isAgg0
  z0 := Tryd.sizeOf0
  v0 := Tryd.zeroValue0
  t2 := Tryd.underlying2
  a2 := Tryd.isAgg2
  z2 := Tryd.sizeOf2
  v2 := Tryd.zeroValue2
  t3 := Tryd.underlying3
  a3 := Tryd.isAgg3
  z3 := Tryd.sizeOf3
  v3 := Tryd.zeroValue3
  t4 := Tryd.underlying4
  a4 := Tryd.isAgg4
  z4 := Tryd.sizeOf4
  v4 := Tryd.zeroValue4
  t5 := Tryd.underlying5
  a5 := Tryd.isAgg5
  z5 := Tryd.sizeOf5
  v5 := Tryd.zeroValue5
  t9 := Tryd.underlying9
  a9 := Tryd.isAgg9
  z9 := Tryd.sizeOf9
  v9 := Tryd.zeroValue9
  t20 := Tryd.underlying20
  a20 := Tryd.isAgg20
  z20 := Tryd.sizeOf20
  v20 := Tryd.zeroValue20
  t37 := Tryd.underlying28
  a37 := Tryd.isAgg28
  z37 := Tryd.sizeOf28
  v37 := Tryd.zeroValue28
  t46 := Tryd.underlying85
  a46 := Tryd.isAgg85
  z46 := Tryd.sizeOf85
  v46 := Tryd.zeroValue85
  t51 := Tryd.underlying113
  a51 := Tryd.isAgg113
  z51 := Tryd.sizeOf113
  v51 := Tryd.zeroValue113
  t53 := Tryd.underlying62
  a53 := Tryd.isAgg62
  z53 := Tryd.sizeOf62
  v53 := Tryd.zeroValue62
  t171 := Tryd.underlying103
  a171 := Tryd.isAgg103
  z171 := Tryd.sizeOf103
  v171 := Tryd.zeroValue103
  t173 := Tryd.underlying106
  a173 := Tryd.isAgg106
  z173 := Tryd.sizeOf106
  v173 := Tryd.zeroValue106
  t212 := Tryd.underlying112
  a212 := Tryd.isAgg112
  z212 := Tryd.sizeOf112
  v212 := Tryd.zeroValue112
  t213 := Tryd.underlying114
  a213 := Tryd.isAgg114
  z213 := Tryd.sizeOf114
  t232 := Tryd.underlying118
  a232 := Tryd.isAgg118
  z232 := Tryd.sizeOf118
  v232 := Tryd.zeroValue118
  t233 := Tryd.underlying119
  a233 := Tryd.isAgg119
  z233 := Tryd.sizeOf119
  v233 := Tryd.zeroValue119
  g17 := by kernel_rfl
  g18 := by kernel_rfl
  g19 := by kernel_rfl
  i0 := by kernel_rfl
  i2 := by kernel_rfl
  i3 := by kernel_rfl
  i4 := by kernel_rfl
  i5 := by kernel_rfl
  i9 := by kernel_rfl
  i20 := by kernel_rfl
  i37 := by kernel_rfl
  i46 := by kernel_rfl
  i51 := by kernel_rfl
  i53 := by kernel_rfl
  i171 := by kernel_rfl
  i173 := by kernel_rfl
  i212 := by kernel_rfl
  i232 := by kernel_rfl
  i233 := by kernel_rfl
  m17 := by kernel_rfl
  m18 := by kernel_rfl
  m19 := by kernel_rfl }
theorem Tryd.strconv_FormatInt_10 (n : Int) (h0 : -9223372036854775808 ≤ n) (h1 : n ≤ 9223372036854775807) (w : World) (htab : Lib.TabIs Tryd.prog w "internal/strconv.uint64pow10" .u64 Lib.pow10Tab) :
    Calls Tryd.prog 41 #[.int .i64 n, .int .i64 10] w fun e w' => e = .returned (.string ⟨(Lib.itoa n).toArray⟩) ∧ ∃ k os, w' = grow (w.drewN k) os := Any.strconv_FormatInt_10 Tryd.laysM173 n h0 h1 w htab
end Go.Proofs