import PyProof.Rows.All
import Wide.All
import OpenK.AllK
import Wide.FinOn
import PySem.Challenge.RW_pq0373_01
set_option Elab.async false
set_option linter.all false

/-! part H1 -/
section
set_option Elab.async false
set_option linter.all false
open PySem PySem.W PySem.Calls PyProof.Rows
set_option autoImplicit false
set_option maxRecDepth 100000
set_option maxHeartbeats 8000000
namespace Mine
noncomputable abbrev pw : Program := PySem.Challenge.rw_pq0373_01.row.prog
noncomputable def fnOf : Option Stmt → Option (Arguments × List Stmt × Scope)
  | some (.FunctionDef _ a b _ _ _ s _ _ _) => some (a, b, s)
  | _ => none
noncomputable def inCls : Option Stmt → List Stmt
  | some (.ClassDef _ _ _ b ..) => b
  | _ => []
noncomputable def at1 (i : Nat) : Option Stmt := pw.main.body[i]?
noncomputable def at2 (i j : Nat) : Option Stmt := (inCls (at1 i))[j]?
noncomputable abbrev prmOf (s : Option Stmt) : Option Arguments := (fnOf s).map (·.1)
noncomputable abbrev bdyOf (s : Option Stmt) : Option (List Stmt) := (fnOf s).map (·.2.1)
noncomputable abbrev scoOf (s : Option Stmt) : Option Scope := (fnOf s).map (·.2.2)
noncomputable def bd_least : { b : List Stmt // bdyOf (at1 2) = some b } := ⟨_, rfl⟩
noncomputable def prm_least : { b : Arguments // prmOf (at1 2) = some b } := ⟨_, rfl⟩
noncomputable def sco_least : { b : Scope // scoOf (at1 2) = some b } := ⟨_, rfl⟩
noncomputable def bd_greatest : { b : List Stmt // bdyOf (at1 3) = some b } := ⟨_, rfl⟩
noncomputable def prm_greatest : { b : Arguments // prmOf (at1 3) = some b } := ⟨_, rfl⟩
noncomputable def sco_greatest : { b : Scope // scoOf (at1 3) = some b } := ⟨_, rfl⟩
noncomputable def bd_Flat_init : { b : List Stmt // bdyOf (at2 5 0) = some b } := ⟨_, rfl⟩
noncomputable def prm_Flat_init : { b : Arguments // prmOf (at2 5 0) = some b } := ⟨_, rfl⟩
noncomputable def sco_Flat_init : { b : Scope // scoOf (at2 5 0) = some b } := ⟨_, rfl⟩
noncomputable def bd_new_var : { b : List Stmt // bdyOf (at2 5 1) = some b } := ⟨_, rfl⟩
noncomputable def prm_new_var : { b : Arguments // prmOf (at2 5 1) = some b } := ⟨_, rfl⟩
noncomputable def sco_new_var : { b : Scope // scoOf (at2 5 1) = some b } := ⟨_, rfl⟩
noncomputable def bd_post : { b : List Stmt // bdyOf (at2 5 2) = some b } := ⟨_, rfl⟩
noncomputable def prm_post : { b : Arguments // prmOf (at2 5 2) = some b } := ⟨_, rfl⟩
noncomputable def sco_post : { b : Scope // scoOf (at2 5 2) = some b } := ⟨_, rfl⟩
noncomputable def bd_size : { b : List Stmt // bdyOf (at2 5 3) = some b } := ⟨_, rfl⟩
noncomputable def prm_size : { b : Arguments // prmOf (at2 5 3) = some b } := ⟨_, rfl⟩
noncomputable def sco_size : { b : Scope // scoOf (at2 5 3) = some b } := ⟨_, rfl⟩
noncomputable def bd_domain_of : { b : List Stmt // bdyOf (at2 5 4) = some b } := ⟨_, rfl⟩
noncomputable def prm_domain_of : { b : Arguments // prmOf (at2 5 4) = some b } := ⟨_, rfl⟩
noncomputable def sco_domain_of : { b : Scope // scoOf (at2 5 4) = some b } := ⟨_, rfl⟩
noncomputable def bd_within_figures : { b : List Stmt // bdyOf (at1 11) = some b } := ⟨_, rfl⟩
noncomputable def prm_within_figures : { b : Arguments // prmOf (at1 11) = some b } := ⟨_, rfl⟩
noncomputable def sco_within_figures : { b : Scope // scoOf (at1 11) = some b } := ⟨_, rfl⟩
noncomputable def bd_is_made : { b : List Stmt // bdyOf (at1 14) = some b } := ⟨_, rfl⟩
noncomputable def prm_is_made : { b : Arguments // prmOf (at1 14) = some b } := ⟨_, rfl⟩
noncomputable def sco_is_made : { b : Scope // scoOf (at1 14) = some b } := ⟨_, rfl⟩
noncomputable def bd_sum_of : { b : List Stmt // bdyOf (at1 15) = some b } := ⟨_, rfl⟩
noncomputable def prm_sum_of : { b : Arguments // prmOf (at1 15) = some b } := ⟨_, rfl⟩
noncomputable def sco_sum_of : { b : Scope // scoOf (at1 15) = some b } := ⟨_, rfl⟩
noncomputable def bd_plus : { b : List Stmt // bdyOf (at1 16) = some b } := ⟨_, rfl⟩
noncomputable def prm_plus : { b : Arguments // prmOf (at1 16) = some b } := ⟨_, rfl⟩
noncomputable def sco_plus : { b : Scope // scoOf (at1 16) = some b } := ⟨_, rfl⟩
noncomputable def bd_contrary : { b : List Stmt // bdyOf (at1 17) = some b } := ⟨_, rfl⟩
noncomputable def prm_contrary : { b : Arguments // prmOf (at1 17) = some b } := ⟨_, rfl⟩
noncomputable def sco_contrary : { b : Scope // scoOf (at1 17) = some b } := ⟨_, rfl⟩
noncomputable def bd_common_of : { b : List Stmt // bdyOf (at1 18) = some b } := ⟨_, rfl⟩
noncomputable def prm_common_of : { b : Arguments // prmOf (at1 18) = some b } := ⟨_, rfl⟩
noncomputable def sco_common_of : { b : Scope // scoOf (at1 18) = some b } := ⟨_, rfl⟩
noncomputable def bd_Gat_init : { b : List Stmt // bdyOf (at2 19 0) = some b } := ⟨_, rfl⟩
noncomputable def prm_Gat_init : { b : Arguments // prmOf (at2 19 0) = some b } := ⟨_, rfl⟩
noncomputable def sco_Gat_init : { b : Scope // scoOf (at2 19 0) = some b } := ⟨_, rfl⟩
noncomputable def bd_once : { b : List Stmt // bdyOf (at2 19 1) = some b } := ⟨_, rfl⟩
noncomputable def prm_once : { b : Arguments // prmOf (at2 19 1) = some b } := ⟨_, rfl⟩
noncomputable def sco_once : { b : Scope // scoOf (at2 19 1) = some b } := ⟨_, rfl⟩
noncomputable def bd_bounds : { b : List Stmt // bdyOf (at2 19 2) = some b } := ⟨_, rfl⟩
noncomputable def prm_bounds : { b : Arguments // prmOf (at2 19 2) = some b } := ⟨_, rfl⟩
noncomputable def sco_bounds : { b : Scope // scoOf (at2 19 2) = some b } := ⟨_, rfl⟩
noncomputable def bd_row : { b : List Stmt // bdyOf (at2 19 6) = some b } := ⟨_, rfl⟩
noncomputable def prm_row : { b : Arguments // prmOf (at2 19 6) = some b } := ⟨_, rfl⟩
noncomputable def sco_row : { b : Scope // scoOf (at2 19 6) = some b } := ⟨_, rfl⟩
noncomputable def bd_row_truth : { b : List Stmt // bdyOf (at2 19 7) = some b } := ⟨_, rfl⟩
noncomputable def prm_row_truth : { b : Arguments // prmOf (at2 19 7) = some b } := ⟨_, rfl⟩
noncomputable def sco_row_truth : { b : Scope // scoOf (at2 19 7) = some b } := ⟨_, rfl⟩
noncomputable def bd_told_truth : { b : List Stmt // bdyOf (at2 19 8) = some b } := ⟨_, rfl⟩
noncomputable def prm_told_truth : { b : Arguments // prmOf (at2 19 8) = some b } := ⟨_, rfl⟩
noncomputable def sco_told_truth : { b : Scope // scoOf (at2 19 8) = some b } := ⟨_, rfl⟩
noncomputable def bd_require_some : { b : List Stmt // bdyOf (at2 19 12) = some b } := ⟨_, rfl⟩
noncomputable def prm_require_some : { b : Arguments // prmOf (at2 19 12) = some b } := ⟨_, rfl⟩
noncomputable def sco_require_some : { b : Scope // scoOf (at2 19 12) = some b } := ⟨_, rfl⟩
noncomputable def bd_require_row : { b : List Stmt // bdyOf (at2 19 13) = some b } := ⟨_, rfl⟩
noncomputable def prm_require_row : { b : Arguments // prmOf (at2 19 13) = some b } := ⟨_, rfl⟩
noncomputable def sco_require_row : { b : Scope // scoOf (at2 19 13) = some b } := ⟨_, rfl⟩
noncomputable def bd_law_next : { b : List Stmt // bdyOf (at1 21) = some b } := ⟨_, rfl⟩
noncomputable def prm_law_next : { b : Arguments // prmOf (at1 21) = some b } := ⟨_, rfl⟩
noncomputable def sco_law_next : { b : Scope // scoOf (at1 21) = some b } := ⟨_, rfl⟩
noncomputable def bd_law_about : { b : List Stmt // bdyOf (at1 22) = some b } := ⟨_, rfl⟩
noncomputable def prm_law_about : { b : Arguments // prmOf (at1 22) = some b } := ⟨_, rfl⟩
noncomputable def sco_law_about : { b : Scope // scoOf (at1 22) = some b } := ⟨_, rfl⟩
noncomputable def bd_law_holds : { b : List Stmt // bdyOf (at1 23) = some b } := ⟨_, rfl⟩
noncomputable def prm_law_holds : { b : Arguments // prmOf (at1 23) = some b } := ⟨_, rfl⟩
noncomputable def sco_law_holds : { b : Scope // scoOf (at1 23) = some b } := ⟨_, rfl⟩
noncomputable def bd_law_many : { b : List Stmt // bdyOf (at1 24) = some b } := ⟨_, rfl⟩
noncomputable def prm_law_many : { b : Arguments // prmOf (at1 24) = some b } := ⟨_, rfl⟩
noncomputable def sco_law_many : { b : Scope // scoOf (at1 24) = some b } := ⟨_, rfl⟩
noncomputable def bd_law_put : { b : List Stmt // bdyOf (at1 25) = some b } := ⟨_, rfl⟩
noncomputable def prm_law_put : { b : Arguments // prmOf (at1 25) = some b } := ⟨_, rfl⟩
noncomputable def sco_law_put : { b : Scope // scoOf (at1 25) = some b } := ⟨_, rfl⟩
noncomputable def bd_law : { b : List Stmt // bdyOf (at1 26) = some b } := ⟨_, rfl⟩
noncomputable def prm_law : { b : Arguments // prmOf (at1 26) = some b } := ⟨_, rfl⟩
noncomputable def sco_law : { b : Scope // scoOf (at1 26) = some b } := ⟨_, rfl⟩
noncomputable abbrev fnO (n q : Str) (a : Arguments) (b : List Stmt) (s : Scope) (m : Str) (k : Tok) (c : Addr) : Obj :=
  { cls := .type "function", data := .func { name := n, qualname := q, params := a, body := .stmts b, scope := s, globals := 3, closure := [], defaults := .none, kwdefaults := .none, pyModule := .str m k, code := .ref c } }
noncomputable abbrev en (P : Params) (s : Str) (t : Tok) (v : Value) : DictEntry := { hash := PyData.keyHash P s, key := .str s t, val := v }
noncomputable def K0 (P : Params) : Frag := [
  (3, { cls := .type "dict", data := .dict #[en P "__name__" 165 (.str "law_pq0373_01" 531), en P "__doc__" 166 .none, en P "__package__" 167 .none, en P "__loader__" 168 (.builtin "__main__.__loader__#opaque"), en P "__spec__" 169 .none, en P "__annotations__" 170 (.ref 6), en P "__builtins__" 171 (.ref 4), en P "__file__" 173 (.str "/claim/cut.py" 172), en P "__cached__" 174 .none, en P "_wall" 193 (.ref 21), en P "least" 202 (.ref 28), en P "greatest" 209 (.ref 35), en P "Flat" 274 (.ref 80), en P "FdError" 314 (.ref 110), en P "LimitFault" 330 (.ref 123), en P "MOST_SHOWN" 334 (.int 1000 333), en P "within_figures" 341 (.ref 132), en P "TRUTHS" 346 (.ref 134), en P "is_made" 354 (.ref 141), en P "sum_of" 361 (.ref 148), en P "plus" 367 (.ref 153), en P "contrary" 374 (.ref 160), en P "common_of" 384 (.ref 167), en P "Gatherer" 530 (.ref 269), en P "_law_next" 541 (.ref 280), en P "_law_about" 548 (.ref 287), en P "_law_holds" 554 (.ref 292), en P "_law_many" 560 (.ref 297), en P "_law_put_together" 577 (.ref 304), en P "law" 583 (.ref 309)] 30 }),
  (27, { cls := .type "code", data := .fields #[.str "least" 196, .str "least" 197, .str "/claim/cut.py" 198, .int 5 0, .int 1 0, .int 0 0, .int 0 0, .int 3 0, .ref 22, .bool true, .int 181 0, .ref 23, .none, .ref 24, .ref 25, .ref 26, .int 200 0, .int 5 0, .str "/claim/cut.py" 201] }),
  (28, fnO "least" "least" prm_least.1 bd_least.1 sco_least.1 "fdsolve.domains" 194 27),
  (34, { cls := .type "code", data := .fields #[.str "greatest" 203, .str "greatest" 204, .str "/claim/cut.py" 205, .int 7 0, .int 1 0, .int 0 0, .int 0 0, .int 3 0, .ref 29, .bool true, .int 181 0, .ref 30, .none, .ref 31, .ref 32, .ref 33, .int 207 0, .int 7 0, .str "/claim/cut.py" 208] }),
  (35, fnO "greatest" "greatest" prm_greatest.1 bd_greatest.1 sco_greatest.1 "fdsolve.domains" 194 34),
  (48, { cls := .type "code", data := .fields #[.str "__init__" 224, .str "Flat.__init__" 225, .str "/claim/cut.py" 226, .int 12 0, .int 1 0, .int 0 0, .int 0 0, .int 3 0, .ref 43, .bool true, .int 181 0, .ref 44, .none, .ref 45, .ref 46, .ref 47, .int 228 0, .int 12 0, .str "/claim/cut.py" 229] }),
  (49, fnO "__init__" "Flat.__init__" prm_Flat_init.1 bd_Flat_init.1 sco_Flat_init.1 "fdsolve.flat" 210 48),
  (55, { cls := .type "code", data := .fields #[.str "new_var" 231, .str "Flat.new_var" 232, .str "/claim/cut.py" 233, .int 18 0, .int 3 0, .int 0 0, .int 0 0, .int 3 0, .ref 50, .bool true, .int 181 0, .ref 51, .none, .ref 52, .ref 53, .ref 54, .int 237 0, .int 18 0, .str "/claim/cut.py" 238] }),
  (56, fnO "new_var" "Flat.new_var" prm_new_var.1 bd_new_var.1 sco_new_var.1 "fdsolve.flat" 210 55),
  (62, { cls := .type "code", data := .fields #[.str "post" 240, .str "Flat.post" 241, .str "/claim/cut.py" 242, .int 22 0, .int 2 0, .int 0 0, .int 0 0, .int 3 0, .ref 57, .bool true, .int 181 0, .ref 58, .none, .ref 59, .ref 60, .ref 61, .int 245 0, .int 22 0, .str "/claim/cut.py" 246] }),
  (63, fnO "post" "Flat.post" prm_post.1 bd_post.1 sco_post.1 "fdsolve.flat" 210 62),
  (69, { cls := .type "code", data := .fields #[.str "size" 248, .str "Flat.size" 249, .str "/claim/cut.py" 250, .int 25 0, .int 1 0, .int 0 0, .int 0 0, .int 3 0, .ref 64, .bool true, .int 181 0, .ref 65, .none, .ref 66, .ref 67, .ref 68, .int 252 0, .int 25 0, .str "/claim/cut.py" 253] }),
  (70, fnO "size" "Flat.size" prm_size.1 bd_size.1 sco_size.1 "fdsolve.flat" 210 69),
  (76, { cls := .type "code", data := .fields #[.str "domain_of" 255, .str "Flat.domain_of" 256, .str "/claim/cut.py" 257, .int 28 0, .int 2 0, .int 0 0, .int 0 0, .int 3 0, .ref 71, .bool true, .int 181 0, .ref 72, .none, .ref 73, .ref 74, .ref 75, .int 260 0, .int 28 0, .str "/claim/cut.py" 261] }),
  (77, fnO "domain_of" "Flat.domain_of" prm_domain_of.1 bd_domain_of.1 sco_domain_of.1 "fdsolve.flat" 210 76),
  (79, { cls := .type "dict", data := .dict #[en P "__module__" 219 (.str "fdsolve.flat" 210), en P "__firstlineno__" 223 (.int 10 222), en P "__init__" 230 (.ref 49), en P "new_var" 239 (.ref 56), en P "post" 247 (.ref 63), en P "size" 254 (.ref 70), en P "domain_of" 262 (.ref 77), en P "__static_attributes__" 267 (.ref 78), en P "__dict__" 269 (.ref 81), en P "__weakref__" 271 (.ref 82), en P "__doc__" 272 .none] 4 }),
  (80, { cls := .type "type", data := .cls { name := "Flat", bases := [.type "object"], mro := [.ref 80, .type "object"], ns := 79, qualname := "Flat" }, slots := #[none, none, some (.str "Flat" 212), some (.str "Flat" 220), some (.builtin "object.__new__"), some (.bool true)] }),
  (81, { cls := .type "getset_descriptor", data := .fields #[.str "__dict__" 268, .ref 80, .builtin "function.__dict__", .builtin "function.__dict__#set"] }),
  (82, { cls := .type "getset_descriptor", data := .fields #[.str "__weakref__" 270, .ref 80, .builtin "ExceptionGroup.__weakref__", .none] }),
  (131, { cls := .type "code", data := .fields #[.str "within_figures" 335, .str "within_figures" 336, .str "/claim/cut.py" 337, .int 43 0, .int 1 0, .int 0 0, .int 0 0, .int 3 0, .ref 126, .bool true, .int 181 0, .ref 127, .none, .ref 128, .ref 129, .ref 130, .int 339 0, .int 43 0, .str "/claim/cut.py" 340] }),
  (132, fnO "within_figures" "within_figures" prm_within_figures.1 bd_within_figures.1 sco_within_figures.1 "fdsolve.values" 331 131),
  (133, { cls := .type "tuple", data := .seq #[.int 0 344, .int 1 345] }),
  (134, { cls := .type "tuple", data := .seq #[.ref 133] }),
  (140, { cls := .type "code", data := .fields #[.str "is_made" 347, .str "is_made" 348, .str "/claim/cut.py" 349, .int 49 0, .int 2 0, .int 0 0, .int 0 0, .int 3 0, .ref 135, .bool true, .int 181 0, .ref 136, .none, .ref 137, .ref 138, .ref 139, .int 352 0, .int 49 0, .str "/claim/cut.py" 353] }),
  (141, fnO "is_made" "is_made" prm_is_made.1 bd_is_made.1 sco_is_made.1 "fdsolve.sums" 342 140),
  (147, { cls := .type "code", data := .fields #[.str "sum_of" 355, .str "sum_of" 356, .str "/claim/cut.py" 357, .int 51 0, .int 1 0, .int 0 0, .int 0 0, .int 3 0, .ref 142, .bool true, .int 181 0, .ref 143, .none, .ref 144, .ref 145, .ref 146, .int 359 0, .int 51 0, .str "/claim/cut.py" 360] }),
  (148, fnO "sum_of" "sum_of" prm_sum_of.1 bd_sum_of.1 sco_sum_of.1 "fdsolve.sums" 342 147),
  (152, { cls := .type "code", data := .fields #[.str "plus" 362, .str "plus" 363, .str "/claim/cut.py" 364, .int 57 0, .int 3 0, .int 0 0, .int 0 0, .int 3 0, .ref 149, .bool true, .int 181 0, .ref 150, .none, .none, .none, .ref 151, .int 365 0, .int 57 0, .str "/claim/cut.py" 366] }),
  (153, fnO "plus" "plus" prm_plus.1 bd_plus.1 sco_plus.1 "fdsolve.sums" 342 152),
  (159, { cls := .type "code", data := .fields #[.str "contrary" 368, .str "contrary" 369, .str "/claim/cut.py" 370, .int 64 0, .int 1 0, .int 0 0, .int 0 0, .int 3 0, .ref 154, .bool true, .int 181 0, .ref 155, .none, .ref 156, .ref 157, .ref 158, .int 372 0, .int 64 0, .str "/claim/cut.py" 373] }),
  (160, fnO "contrary" "contrary" prm_contrary.1 bd_contrary.1 sco_contrary.1 "fdsolve.sums" 342 159),
  (166, { cls := .type "code", data := .fields #[.str "common_of" 375, .str "common_of" 376, .str "/claim/cut.py" 377, .int 66 0, .int 1 0, .int 0 0, .int 0 0, .int 3 0, .ref 161, .bool true, .int 181 0, .ref 162, .none, .ref 163, .ref 164, .ref 165, .int 382 0, .int 66 0, .str "/claim/cut.py" 383] }),
  (167, fnO "common_of" "common_of" prm_common_of.1 bd_common_of.1 sco_common_of.1 "fdsolve.sums" 342 166),
  (180, { cls := .type "code", data := .fields #[.str "__init__" 397, .str "Gatherer.__init__" 398, .str "/claim/cut.py" 399, .int 75 0, .int 1 0, .int 0 0, .int 0 0, .int 3 0, .ref 175, .bool true, .int 181 0, .ref 176, .none, .ref 177, .ref 178, .ref 179, .int 401 0, .int 75 0, .str "/claim/cut.py" 402] }),
  (181, fnO "__init__" "Gatherer.__init__" prm_Gat_init.1 bd_Gat_init.1 sco_Gat_init.1 "fdsolve.sums" 342 180),
  (187, { cls := .type "code", data := .fields #[.str "once" 404, .str "Gatherer.once" 405, .str "/claim/cut.py" 406, .int 79 0, .int 3 0, .int 0 0, .int 0 0, .int 3 0, .ref 182, .bool true, .int 181 0, .ref 183, .none, .ref 184, .ref 185, .ref 186, .int 413 0, .int 79 0, .str "/claim/cut.py" 414] }),
  (188, fnO "once" "Gatherer.once" prm_once.1 bd_once.1 sco_once.1 "fdsolve.sums" 342 187),
  (194, { cls := .type "code", data := .fields #[.str "bounds" 416, .str "Gatherer.bounds" 417, .str "/claim/cut.py" 418, .int 87 0, .int 2 0, .int 0 0, .int 0 0, .int 3 0, .ref 189, .bool true, .int 181 0, .ref 190, .none, .ref 191, .ref 192, .ref 193, .int 427 0, .int 87 0, .str "/claim/cut.py" 428] }),
  (195, fnO "bounds" "Gatherer.bounds" prm_bounds.1 bd_bounds.1 sco_bounds.1 "fdsolve.sums" 342 194),
  (220, { cls := .type "code", data := .fields #[.str "row" 454, .str "Gatherer.row" 455, .str "/claim/cut.py" 456, .int 104 0, .int 3 0, .int 0 0, .int 0 0, .int 3 0, .ref 217, .bool true, .int 181 0, .ref 218, .none, .none, .none, .ref 219, .int 457 0, .int 104 0, .str "/claim/cut.py" 458] }),
  (221, fnO "row" "Gatherer.row" prm_row.1 bd_row.1 sco_row.1 "fdsolve.sums" 342 220),
  (225, { cls := .type "code", data := .fields #[.str "row_truth" 460, .str "Gatherer.row_truth" 461, .str "/claim/cut.py" 462, .int 118 0, .int 3 0, .int 0 0, .int 0 0, .int 3 0, .ref 222, .bool true, .int 181 0, .ref 223, .none, .none, .none, .ref 224, .int 463 0, .int 118 0, .str "/claim/cut.py" 464] }),
  (226, fnO "row_truth" "Gatherer.row_truth" prm_row_truth.1 bd_row_truth.1 sco_row_truth.1 "fdsolve.sums" 342 225),
  (232, { cls := .type "code", data := .fields #[.str "told_truth" 466, .str "Gatherer.told_truth" 467, .str "/claim/cut.py" 468, .int 130 0, .int 2 0, .int 0 0, .int 0 0, .int 3 0, .ref 227, .bool true, .int 181 0, .ref 228, .none, .ref 229, .ref 230, .ref 231, .int 477 0, .int 130 0, .str "/claim/cut.py" 478] }),
  (233, fnO "told_truth" "Gatherer.told_truth" prm_told_truth.1 bd_told_truth.1 sco_told_truth.1 "fdsolve.sums" 342 232),
  (258, { cls := .type "code", data := .fields #[.str "require_some" 505, .str "Gatherer.require_some" 506, .str "/claim/cut.py" 507, .int 148 0, .int 2 0, .int 0 0, .int 0 0, .int 3 0, .ref 255, .bool true, .int 181 0, .ref 256, .none, .none, .none, .ref 257, .int 508 0, .int 148 0, .str "/claim/cut.py" 509] }),
  (259, fnO "require_some" "Gatherer.require_some" prm_require_some.1 bd_require_some.1 sco_require_some.1 "fdsolve.sums" 342 258),
  (265, { cls := .type "code", data := .fields #[.str "require_row" 511, .str "Gatherer.require_row" 512, .str "/claim/cut.py" 513, .int 155 0, .int 3 0, .int 0 0, .int 0 0, .int 3 0, .ref 260, .bool true, .int 181 0, .ref 261, .none, .ref 262, .ref 263, .ref 264, .int 518 0, .int 155 0, .str "/claim/cut.py" 519] }),
  (266, fnO "require_row" "Gatherer.require_row" prm_require_row.1 bd_require_row.1 sco_require_row.1 "fdsolve.sums" 342 265),
  (268, { cls := .type "dict", data := .dict #[en P "__module__" 392 (.str "fdsolve.sums" 342), en P "__firstlineno__" 396 (.int 73 395), en P "__init__" 403 (.ref 181), en P "once" 415 (.ref 188), en P "bounds" 429 (.ref 195), en P "var_of" 437 (.ref 202), en P "vars_of" 445 (.ref 209), en P "strength_of" 453 (.ref 216), en P "row" 459 (.ref 221), en P "row_truth" 465 (.ref 226), en P "told_truth" 479 (.ref 233), en P "all_of" 487 (.ref 240), en P "any_of" 495 (.ref 247), en P "unlike" 504 (.ref 254), en P "require_some" 510 (.ref 259), en P "require_row" 520 (.ref 266), en P "__static_attributes__" 523 (.ref 267), en P "__dict__" 525 (.ref 270), en P "__weakref__" 527 (.ref 271), en P "__doc__" 528 .none] 4 }),
  (269, { cls := .type "type", data := .cls { name := "Gatherer", bases := [.type "object"], mro := [.ref 269, .type "object"], ns := 268, qualname := "Gatherer" }, slots := #[none, none, some (.str "Gatherer" 385), some (.str "Gatherer" 393), some (.builtin "object.__new__"), some (.bool true)] }),
  (270, { cls := .type "getset_descriptor", data := .fields #[.str "__dict__" 524, .ref 269, .builtin "function.__dict__", .builtin "function.__dict__#set"] }),
  (271, { cls := .type "getset_descriptor", data := .fields #[.str "__weakref__" 526, .ref 269, .builtin "ExceptionGroup.__weakref__", .none] }),
  (279, { cls := .type "code", data := .fields #[.str "_law_next" 533, .str "_law_next" 534, .str "/claim/cut.py" 535, .int 162 0, .int 2 0, .int 0 0, .int 0 0, .int 3 0, .ref 274, .bool true, .int 181 0, .ref 275, .none, .ref 276, .ref 277, .ref 278, .int 539 0, .int 162 0, .str "/claim/cut.py" 540] }),
  (280, fnO "_law_next" "_law_next" prm_law_next.1 bd_law_next.1 sco_law_next.1 "law_pq0373_01" 531 279),
  (286, { cls := .type "code", data := .fields #[.str "_law_about" 542, .str "_law_about" 543, .str "/claim/cut.py" 544, .int 166 0, .int 1 0, .int 0 0, .int 0 0, .int 3 0, .ref 281, .bool true, .int 181 0, .ref 282, .none, .ref 283, .ref 284, .ref 285, .int 546 0, .int 166 0, .str "/claim/cut.py" 547] }),
  (287, fnO "_law_about" "_law_about" prm_law_about.1 bd_law_about.1 sco_law_about.1 "law_pq0373_01" 531 286),
  (291, { cls := .type "code", data := .fields #[.str "_law_holds" 549, .str "_law_holds" 550, .str "/claim/cut.py" 551, .int 170 0, .int 2 0, .int 0 0, .int 0 0, .int 3 0, .ref 288, .bool true, .int 181 0, .ref 289, .none, .none, .none, .ref 290, .int 552 0, .int 170 0, .str "/claim/cut.py" 553] }),
  (292, fnO "_law_holds" "_law_holds" prm_law_holds.1 bd_law_holds.1 sco_law_holds.1 "law_pq0373_01" 531 291),
  (296, { cls := .type "code", data := .fields #[.str "_law_many" 555, .str "_law_many" 556, .str "/claim/cut.py" 557, .int 177 0, .int 3 0, .int 0 0, .int 0 0, .int 3 0, .ref 293, .bool true, .int 181 0, .ref 294, .none, .none, .none, .ref 295, .int 558 0, .int 177 0, .str "/claim/cut.py" 559] }),
  (297, fnO "_law_many" "_law_many" prm_law_many.1 bd_law_many.1 sco_law_many.1 "law_pq0373_01" 531 296),
  (303, { cls := .type "code", data := .fields #[.str "_law_put_together" 561, .str "_law_put_together" 562, .str "/claim/cut.py" 563, .int 189 0, .int 6 0, .int 0 0, .int 0 0, .int 3 0, .ref 298, .bool true, .int 181 0, .ref 299, .none, .ref 300, .ref 301, .ref 302, .int 575 0, .int 189 0, .str "/claim/cut.py" 576] }),
  (304, fnO "_law_put_together" "_law_put_together" prm_law_put.1 bd_law_put.1 sco_law_put.1 "law_pq0373_01" 531 303),
  (308, { cls := .type "code", data := .fields #[.str "law" 578, .str "law" 579, .str "/claim/cut.py" 580, .int 206 0, .int 1 0, .int 0 0, .int 0 0, .int 3 0, .ref 305, .bool true, .int 181 0, .ref 306, .none, .none, .none, .ref 307, .int 581 0, .int 206 0, .str "/claim/cut.py" 582] }),
  (309, fnO "law" "law" prm_law.1 bd_law.1 sco_law.1 "law_pq0373_01" 531 308)]
noncomputable def as0 : List Addr := [3, 27, 28, 34, 35, 48, 49, 55, 56, 62, 63, 69, 70, 76, 77, 79, 80, 81, 82, 131, 132, 133, 134, 140, 141, 147, 148, 152, 153, 159, 160, 166, 167, 180, 181, 187, 188, 194, 195, 220, 221, 225, 226, 232, 233, 258, 259, 265, 266, 268, 269, 270, 271, 279, 280, 286, 287, 291, 292, 296, 297, 303, 304, 308, 309]
noncomputable def view : Program := { pw with main := { pw.main with body := [0, 2, 3, 5, 7, 8, 10, 11, 13, 14, 15, 16, 17, 18, 19, 21, 22, 23, 24, 25, 26].filterMap at1 } }
noncomputable def HK : Hook := kHook K0 as0 (fun P => by kernel_rfl)
noncomputable def runG (st : SharedT → Thread → Option (SharedT × Thread)) (ok : Thread → Bool) (n : Nat) : SharedT → Thread → Option SharedT :=
  @Nat.rec (fun _ => SharedT → Thread → Option SharedT) (fun _ _ => none) (fun _ ih s t => match through t with
    | true => some s
    | false => match ok t with
      | false => none
      | true => match st s t with
        | some (s', t') => ih s' t'
        | none => none) n
theorem runG_spec {p : Program} {w : World} {n₀ : Nat} {ann : Option Value} {s' : SharedT} : ∀ (n : Nat) (s : SharedT) (t : Thread), runG (stepT (denote treeTable) p w) (stepOk n₀ ann) n s t = some s' → topRun treeTable p w n₀ ann n s.abs t = some s'.abs
  | 0, _, _, h => nomatch h
  | n + 1, s, t, h => by
    have h : (match through t with
      | true => some s
      | false => match stepOk n₀ ann t with
        | false => none
        | true => match stepT (denote treeTable) p w s t with
          | some (s', t') => runG (stepT (denote treeTable) p w) (stepOk n₀ ann) n s' t'
          | none => none) = some s' := h
    unfold topRun
    cases ht : through t with
    | true => rw [ht] at h; cases h; rfl
    | false =>
      rw [ht] at h
      cases hk : stepOk n₀ ann t with
      | false => rw [hk] at h; cases h
      | true =>
        rw [hk] at h
        cases hs : stepT (denote treeTable) p w s t with
        | none => rw [hs] at h; cases h
        | some r => obtain ⟨s₂, t₂⟩ := r; rw [hs] at h; rw [stepT_spec hs]; exact runG_spec n s₂ t₂ h
noncomputable def T0 (P : Params) : BT :=
  .node (boot_o_0 P) (.node (boot_o_1 P) (.node (boot_o_3 P) (.node (boot_o_7 P) .nil .nil) .nil) (.node (boot_o_5 P) (.node (boot_o_9 P) .nil .nil) .nil))
    (.node (boot_o_2 P) (.node (boot_o_4 P) (.node (boot_o_8 P) .nil .nil) .nil) (.node (boot_o_6 P) (.node (boot_o_10 P) .nil .nil) .nil))
theorem T0_eq (P : Params) : absHeap (T0 P) 11 {} = boot_heap P := rfl
theorem ann_eq (P : Params) : (boot_heap P).nsMap mainGlobals "__annotations__" = some (.ref 6) := by with_unfolding_all rfl
theorem sz_eq (P : Params) : (boot_heap P).objs.size = 11 := rfl
theorem ns_eq (P : Params) : (boot_heap P).isNs mainGlobals = true := by kernel_rfl
noncomputable def Xt0 (s : Shared) : Bool := xlAt view [] s && recOk (RowW.records PySem.Challenge.rw_pq0373_01.row.toRowW) s
noncomputable abbrev stepQ (w : World) := PySem.W.Fast.tw10156331382660048174 (PySem.W.Fast.tw11892475500146522536 PySem.W.Fast.tw14364793385576792824) pw w
noncomputable abbrev okQ := PySem.W.Fast.tw6613529449190102663 11 (some (.ref 6))
noncomputable abbrev s₀Q (w : World) (os : OsState) : SharedT := ⟨T0 w.params, 11, {}, #[], boot_drawn, boot_toks, os⟩
theorem runA (w : World) : (fun os => (runG (stepQ w) okQ 3000 (s₀Q w os) (topStub pw)).map fun s =>
    ((staticsOk (importedModules pw.main.body) (boot_heap w.params) s.abs.heap && namesBound pw s.abs.heap && gensDone s.abs && laidKept (boot_heap w.params) s.abs.heap), HK.obs s.abs, PySem.W.Fast.tw4187177175401517315 view [] (importedModules pw.main.body) Xt0 true s.abs)) = fun _ => some (true, HK.val w, openGood view []) := by kernel_rfl
theorem s0_abs (w : World) (os : OsState) : (s₀Q w os).abs = ⟨boot_heap w.params, #[], boot_drawn, boot_toks, os⟩ := by
  show Shared.mk (absHeap (T0 w.params) 11 {}) _ _ _ _ = _
  rw [T0_eq]
theorem stepQ_eq (w : World) : stepQ w = stepT (denote treeTable) pw w := by
  unfold stepQ
  rw [← PySem.W.Fast.te10156331382660048174, ← PySem.W.Fast.te11892475500146522536, ← PySem.W.Fast.te14364793385576792824]
theorem okQ_eq : okQ = stepOk 11 (some (.ref 6)) := by
  unfold okQ
  rw [← PySem.W.Fast.te6613529449190102663]
theorem open_eq : opening pw = plainProg pw.main.scope.names := by kernel_rfl
theorem ran (w : World) (os : OsState) : ∃ s : SharedT, topRun treeTable pw w 11 (some (.ref 6)) 3000 ⟨boot_heap w.params, #[], boot_drawn, boot_toks, os⟩ (topStub pw) = some s.abs ∧
    (staticsOk (importedModules pw.main.body) (boot_heap w.params) s.abs.heap && namesBound pw s.abs.heap && gensDone s.abs && laidKept (boot_heap w.params) s.abs.heap) = true ∧
    HK.obs s.abs = HK.val w ∧ openSeen view [] (importedModules pw.main.body) Xt0 true s.abs = openGood view [] := by
  obtain ⟨s, h0, h1⟩ := Option.map_eq_some_iff.mp (congrFun (runA w) os)
  obtain ⟨h1, h2⟩ := Prod.mk.inj h1
  obtain ⟨h2, h3⟩ := Prod.mk.inj h2
  rw [stepQ_eq, okQ_eq] at h0
  have := runG_spec _ _ _ h0
  rw [s0_abs] at this
  refine ⟨s, this, h1, h2, ?_⟩
  rw [← PySem.W.Fast.te4187177175401517315] at h3
  exact h3
theorem q_fin {α β γ : Type} (f : α → β) (g : α → γ) (s : α) (b : β) (c : γ) (h1 : f s = b) (h2 : g s = c) : (some s).map (fun s => (f s, g s)) = some (b, c) := by
  subst h1; subst h2; rfl
theorem q_bind {α β : Type} {o : Option α} {x : α} {g : α → Option β} {y : β} (e : o = some x) (t : g x = some y) : o.bind g = some y := by
  subst e; exact t
theorem q_map {α β : Type} {o : Option α} {x : α} {f : α → β} {y : β} (e : o = some x) (t : (some x).map f = some y) : o.map f = some y := by
  subst e; exact t
theorem q_boot (w : World) : ∃ os, fencedOpening treeTable pw w 5000 = some ⟨boot_heap w.params, #[], boot_drawn, boot_toks, os⟩ := by
  obtain ⟨⟨h, gs, d, k, os⟩, e, e'⟩ := Option.map_eq_some_iff.mp (boot_open (p := pw) (N := 5000) open_eq rfl (fun _ => rfl) w)
  cases e'
  exact ⟨os, e⟩
theorem q_top (w : World) (os : OsState) (s : Shared) (r : topRun treeTable pw w 11 (some (.ref 6)) 5000 ⟨boot_heap w.params, #[], boot_drawn, boot_toks, os⟩ (topStub pw) = some s)
    (l1 : (staticsOk (importedModules pw.main.body) (boot_heap w.params) s.heap && namesBound pw s.heap && gensDone s && laidKept (boot_heap w.params) s.heap) = true) :
    topFrom treeTable pw w 5000 ⟨boot_heap w.params, #[], boot_drawn, boot_toks, os⟩ = some s := by
  unfold topFrom
  dsimp only
  rw [ns_eq, ann_eq, sz_eq, r]
  show (match staticsOk (importedModules pw.main.body) (boot_heap w.params) s.heap && namesBound pw s.heap && gensDone s && laidKept (boot_heap w.params) s.heap with | true => _ | false => _) = _
  rw [l1]
theorem q_ends (w : World) (os : OsState) (s : Shared) (e : fencedOpening treeTable pw w 5000 = some ⟨boot_heap w.params, #[], boot_drawn, boot_toks, os⟩)
    (t : topFrom treeTable pw w 5000 ⟨boot_heap w.params, #[], boot_drawn, boot_toks, os⟩ = some s) : openEnds treeTable pw w 5000 = some s := by
  unfold openEnds
  exact q_bind e t
theorem left : LeftO pw view [] Xt0 HK.obs HK.val 5000 := by
  intro w
  obtain ⟨os, e⟩ := q_boot w
  obtain ⟨s, r, l1, l2, l3⟩ := ran w os
  have r := topRun_mono 2000 _ _ _ _ r
  exact q_map (q_ends w os s.abs e (q_top w os s.abs r l1)) (q_fin (openSeen view [] (importedModules pw.main.body) Xt0 true) HK.obs s.abs _ _ l3 l2)
noncomputable def D0 : DefRec := { name := "law", params := prm_law.1, body := bd_law.1, scope := sco_law.1, pos := ⟨206, 0, 241, 15⟩ }
theorem hdef0 : defOf view PySem.Challenge.rw_pq0373_01.row.name = some (D0, []) := by kernel_rfl
theorem ok0q : PySem.W.Fast.tw9446332074065402090 PySem.Challenge.rw_pq0373_01 = true := by kernel_rfl
theorem ok0 : PySem.Challenge.rw_pq0373_01.wellSaid = true := (congrFun PySem.W.Fast.te9446332074065402090 _).trans ok0q
theorem ok1 : (chainsOk view && opensWell PySem.Challenge.rw_pq0373_01.row.prog && (frees PySem.Challenge.rw_pq0373_01.row.toRowW && PySem.Challenge.rw_pq0373_01.row.within.isEmpty)) = true := by kernel_rfl
theorem hd (hc : WalkO view [] (XL view []) HK.says PySem.Challenge.rw_pq0373_01.row.toRowW D0 [] fun f vs => PySem.call f vs) : PySem.Challenge.rw_pq0373_01.Holds :=
  holds_law ok0 fun said => holds_open (q := view) (loose := []) (Xt := Xt0) (XP := XL view []) (Yf := HK.obs) (Ya := HK.val) (YP := HK.says) (d := D0) (kwd := []) (N := 5000)
    left HK.of HK.keeps (fun s e => xl_of s (Bool.and_eq_true_iff.mp e).1) XL.keeps hdef0 (by kernel_rfl) (by kernel_rfl) (fun s e => recFacts_of (Bool.and_eq_true_iff.mp e).2) (by first | rfl | kernel_rfl) said ok1
    ⟨rfl, rfl, rfl, rfl, rfl, by decide +kernel⟩ (by w_witness2) hc
end Mine
end

/-! part L1 -/
section
open PySem PySem.W PySem.Calls PyProof.Rows
set_option Elab.async false
namespace Mine

/-- abstract values -/
inductive V where
  | none
  | bool (b : Bool)
  | int (i : Int)
  | str (s : Str)
  | tup (xs : List V)
  | lst (xs : List V)
  | ref (n : Nat)
  | inst (c : Addr) (n : Nat)
  | rng (a b : Int)

noncomputable abbrev tupO (items : Array Value) (n : Nat) : Obj := { cls := .type "tuple", data := .seq items n }
noncomputable abbrev lstO (items : Array Value) (n : Nat) : Obj := { cls := .type "list", data := .seq items n }
noncomputable abbrev dctO (es : Array DictEntry) (n : Nat) : Obj := { cls := .type "dict", data := .dict es n }

noncomputable abbrev rngO (a b : Int) (t u w : Tok) : Obj := { cls := .type "range", dict := none, data := .fields #[.int a t, .int b u, .int 1 w], slots := #[] }
/-- objects that frames write: namespaces and cells -/
noncomputable def isStore (o : Obj) : Prop := (∃ es n, o.data = .dict es n) ∨ ∃ c, o.data = .cell c
/-- objects that a value may stand for -/
noncomputable def isVal (o : Obj) : Prop := (∃ xs n, o = tupO xs n) ∨ (∃ xs n, o = lstO xs n) ∨ (∃ C d, o = instObj C d) ∨ ∃ a b t u w, o = rngO a b t u w
theorem isStore.not {o : Obj} (h : isStore o) : ¬ isVal o := by
  rintro (⟨_, _, rfl⟩ | ⟨_, _, rfl⟩ | ⟨_, _, rfl⟩ | ⟨_, _, _, _, _, rfl⟩) <;> rcases h with ⟨_, _, e⟩ | ⟨_, e⟩ <;> cases e

mutual
/-- the value v stands for x -/
noncomputable def VR (h : Heap) (μ : List Addr) : V → Value → Prop
  | .none, v => v = .none
  | .bool b, v => v = .bool b
  | .int i, v => ∃ t, v = .int i t
  | .str s, v => ∃ t, v = .str s t
  | .tup xs, v => ∃ a items n, v = .ref a ∧ a ∉ μ ∧ h.get? a = some (tupO items n) ∧ VRs h μ xs items.toList
  | .lst xs, v => ∃ a items n, v = .ref a ∧ a ∉ μ ∧ h.get? a = some (lstO items n) ∧ VRs h μ xs items.toList
  | .ref n, v => ∃ a, v = .ref a ∧ μ[n]? = some a
  | .inst c n, v => ∃ a d, v = .ref a ∧ a ∉ μ ∧ h.get? a = some (instObj c d) ∧ μ[n]? = some d
  | .rng a b, v => ∃ r t u w, v = .ref r ∧ r ∉ μ ∧ IsRange h r a b 1 t u w
noncomputable def VRs (h : Heap) (μ : List Addr) : List V → List Value → Prop
  | [], vs => vs = []
  | x :: xs, vs => ∃ v ws, vs = v :: ws ∧ VR h μ x v ∧ VRs h μ xs ws
end

/-- from (μ, h) to (μ', h'): μ grows by new addresses; all that a value may stand for, and is not in μ, stays -/
structure Keep (μ : List Addr) (h : Heap) (μ' : List Addr) (h' : Heap) : Prop where
  grow : ∃ ν, μ' = μ ++ ν ∧ ∀ a ∈ ν, h.get? a = none
  keep : ∀ a o, h.get? a = some o → a ∉ μ → isVal o → h'.get? a = some o

theorem Keep.idx {μ μ' : List Addr} {h h' : Heap} (K : Keep μ h μ' h') {n : Nat} {a : Addr} (e : μ[n]? = some a) : μ'[n]? = some a := by
  obtain ⟨ν, rfl, _⟩ := K.grow
  rw [List.getElem?_append_left (List.getElem?_eq_some_iff.mp e).1]; exact e
theorem Keep.off {μ μ' : List Addr} {h h' : Heap} (K : Keep μ h μ' h') {a : Addr} {o : Obj} (e : h.get? a = some o) (n : a ∉ μ) : a ∉ μ' := by
  obtain ⟨ν, rfl, hν⟩ := K.grow
  intro hm
  rcases List.mem_append.mp hm with hm | hm
  · exact n hm
  · rw [hν a hm] at e; cases e

mutual
theorem VR.mono {μ μ' : List Addr} {h h' : Heap} (K : Keep μ h μ' h') : ∀ (x : V) (v : Value), VR h μ x v → VR h' μ' x v
  | .none, _, e => by exact e
  | .bool _, _, e => by exact e
  | .int _, _, e => by exact e
  | .str _, _, e => by exact e
  | .tup xs, v, e => by
    obtain ⟨a, items, n, h1, h2, h3, h4⟩ := e
    exact ⟨a, items, n, h1, K.off h3 h2, K.keep _ _ h3 h2 (.inl ⟨_, _, rfl⟩), VRs.mono K xs _ h4⟩
  | .lst xs, v, e => by
    obtain ⟨a, items, n, h1, h2, h3, h4⟩ := e
    exact ⟨a, items, n, h1, K.off h3 h2, K.keep _ _ h3 h2 (.inr (.inl ⟨_, _, rfl⟩)), VRs.mono K xs _ h4⟩
  | .ref n, v, e => by
    obtain ⟨a, h1, h2⟩ := e
    exact ⟨a, h1, K.idx h2⟩
  | .inst c n, v, e => by
    obtain ⟨a, d, h1, h2, h3, h4⟩ := e
    exact ⟨a, d, h1, K.off h3 h2, K.keep _ _ h3 h2 (.inr (.inr (.inl ⟨_, _, rfl⟩))), K.idx h4⟩
  | .rng x y, v, e => by
    obtain ⟨a, t, u, w, h1, h2, h3⟩ := e
    exact ⟨a, t, u, w, h1, K.off h3 h2, K.keep _ _ h3 h2 (.inr (.inr (.inr ⟨_, _, _, _, _, rfl⟩)))⟩
theorem VRs.mono {μ μ' : List Addr} {h h' : Heap} (K : Keep μ h μ' h') : ∀ (xs : List V) (vs : List Value), VRs h μ xs vs → VRs h' μ' xs vs
  | [], _, e => by exact e
  | x :: xs, vs, e => by
    obtain ⟨v, ws, h1, h2, h3⟩ := e
    exact ⟨v, ws, h1, VR.mono K x v h2, VRs.mono K xs ws h3⟩
end

theorem VRs.length {h : Heap} {μ : List Addr} : ∀ {xs : List V} {vs : List Value}, VRs h μ xs vs → vs.length = xs.length
  | [], _, e => by cases (show _ = _ from e); rfl
  | _ :: xs, _, e => by
    obtain ⟨v, ws, rfl, _, h3⟩ := e
    simp [VRs.length h3]
theorem VRs.get {h : Heap} {μ : List Addr} : ∀ {xs : List V} {vs : List Value}, VRs h μ xs vs → ∀ {i : Nat} {x : V}, xs[i]? = some x → ∃ v, vs[i]? = some v ∧ VR h μ x v
  | [], _, _, i, x, hx => by simp at hx
  | y :: xs, _, e, i, x, hx => by
    obtain ⟨v, ws, rfl, h2, h3⟩ := e
    cases i with
    | zero => simp at hx; subst hx; exact ⟨v, rfl, h2⟩
    | succ i => simp at hx; simpa using VRs.get h3 hx
theorem VRs.append {h : Heap} {μ : List Addr} : ∀ {xs ys : List V} {vs ws : List Value}, VRs h μ xs vs → VRs h μ ys ws → VRs h μ (xs ++ ys) (vs ++ ws)
  | [], _, _, _, e, f => by cases (show _ = [] from e); exact f
  | _ :: xs, _, _, _, e, f => by
    obtain ⟨v, vs', rfl, h2, h3⟩ := e
    show VRs h μ (_ :: (xs ++ _)) (v :: (vs' ++ _))
    exact ⟨v, _, rfl, h2, VRs.append h3 f⟩
theorem VRs.nil {h : Heap} {μ : List Addr} : VRs h μ [] [] := rfl
theorem VRs.cons {h : Heap} {μ : List Addr} {x : V} {v : Value} {xs : List V} {vs : List Value} (a : VR h μ x v) (b : VRs h μ xs vs) : VRs h μ (x :: xs) (v :: vs) := by
  exact ⟨v, vs, rfl, a, b⟩
theorem VRs.one {h : Heap} {μ : List Addr} {x : V} {v : Value} (a : VR h μ x v) : VRs h μ [x] [v] := VRs.cons a VRs.nil
theorem VRs.uncons {h : Heap} {μ : List Addr} {x : V} {xs : List V} {vs : List Value} (e : VRs h μ (x :: xs) vs) : ∃ v ws, vs = v :: ws ∧ VR h μ x v ∧ VRs h μ xs ws := by
  exact e
theorem VRs.nil_inv {h : Heap} {μ : List Addr} {vs : List Value} (e : VRs h μ [] vs) : vs = [] := by exact e
/-- the list splits alike -/
theorem VRs.drop {h : Heap} {μ : List Addr} : ∀ (n : Nat) {xs : List V} {vs : List Value}, VRs h μ xs vs → VRs h μ (xs.drop n) (vs.drop n)
  | 0, _, _, e => by simpa using e
  | n + 1, [], _, e => by rw [VRs.nil_inv e]; exact VRs.nil
  | n + 1, x :: xs, _, e => by
    obtain ⟨v, ws, rfl, _, h3⟩ := VRs.uncons e
    simpa using VRs.drop n h3

/-- tracked objects -/
inductive O where
  | list (xs : List V)
  | idict (es : List (Int × V))
  | sdict (es : List (Str × V))
  | tdict (es : List ((Str × List Int × List Int × Int) × V))
  | junk

end Mine
end

/-! part L2 -/
section
open PySem PySem.W PySem.Calls PyProof.Rows
set_option Elab.async false
namespace Mine

noncomputable abbrev TK := Str × List Int × List Int × Int
noncomputable def keyV (k : TK) : V := .tup [.str "reif", .tup [.str k.1, .tup (k.2.1.map V.int), .tup (k.2.2.1.map V.int), .int k.2.2.2]]

end Mine
namespace Mine
/-- the fixed surroundings: program, world, the written part, the heap ahead of the call -/
structure Cx where
  prog : Program
  w : World
  K : Frag
  p : Program
  loose : List Str
  mg : Str → Option Value
  mb : Str → Option Value
  h₀ : Heap
structure Cx.Ok (c : Cx) : Prop where
  x : c.K.In c.h₀
  t : TopRead c.p c.loose c.mg c.mb c.h₀

noncomputable def entTK (hash : TK → Int) (x : TK × Addr × Value) : DictEntry := ⟨hash x.1, .ref x.2.1, x.2.2⟩
noncomputable def hashTK (c : Cx) (k : TK) : Int := 
  reduceHash (Builtin.Tuple.tupleHashOf [hashStr c.w "reif", reduceHash (Builtin.Tuple.tupleHashOf
    [hashStr c.w k.1, tupleKeyHash (intKind c.prog c.w) k.2.1, tupleKeyHash (intKind c.prog c.w) k.2.2.1, hashInt k.2.2.2])])

noncomputable def OR (c : Cx) (h : Heap) (μ : List Addr) : O → Addr → Prop
  | .list xs, a => ∃ items n, h.get? a = some (lstO items n) ∧ VRs h μ xs items.toList
  | .idict es, a => ∃ kvs, h.DictOf (intKind c.prog c.w) a kvs ∧ kvs.map (·.1) = es.map (·.1) ∧ VRs h μ (es.map (·.2)) (kvs.map (·.2))
  | .sdict es, a => ∃ kvs, h.DictOf (strKind c.prog c.w) a kvs ∧ kvs.map (·.1) = es.map (·.1) ∧ VRs h μ (es.map (·.2)) (kvs.map (·.2))
  | .junk, a => ∃ x y, h.get? a = some (tupO #[x, y] 0)
  | .tdict es, a => ∃ (xs : List (TK × Addr × Value)) (ds : Array DictEntry) (ep : Nat), h.get? a = some (dctO ds ep) ∧ ds.toList = xs.map (entTK (hashTK c)) ∧
      (∀ x ∈ xs, VR h μ (keyV x.1) (.ref x.2.1) ∧ PyData.strOk x.1.1 = true) ∧ (xs.map (·.1)).Nodup ∧ xs.map (·.1) = es.map (·.1) ∧ VRs h μ (es.map (·.2)) (xs.map (·.2.2))

theorem OR.mono {c : Cx} {h h' : Heap} {μ μ' : List Addr} (K : Keep μ h μ' h') {x : O} {a : Addr} (e : OR c h μ x a) (ea : ∀ o, h.get? a = some o → h'.get? a = some o) : OR c h' μ' x a := by
  cases x with
  | list xs => obtain ⟨items, n, h1, h2⟩ := e; exact ⟨items, n, ea _ h1, VRs.mono K _ _ h2⟩
  | idict es => obtain ⟨kvs, ⟨o, es', ep, h1, h2⟩, h3, h4⟩ := e; exact ⟨kvs, ⟨o, es', ep, ea _ h1, h2⟩, h3, VRs.mono K _ _ h4⟩
  | sdict es => obtain ⟨kvs, ⟨o, es', ep, h1, h2⟩, h3, h4⟩ := e; exact ⟨kvs, ⟨o, es', ep, ea _ h1, h2⟩, h3, VRs.mono K _ _ h4⟩
  | junk => obtain ⟨x, y, h1⟩ := e; exact ⟨x, y, ea _ h1⟩
  | tdict es =>
    obtain ⟨xs, ds, ep, h1, h2, h3, h4, h5, h6⟩ := e
    exact ⟨xs, ds, ep, ea _ h1, h2, fun x hx => ⟨VR.mono K _ _ (h3 x hx).1, (h3 x hx).2⟩, h4, h5, VRs.mono K _ _ h6⟩

theorem OR.alive {c : Cx} {h : Heap} {μ : List Addr} {x : O} {a : Addr} (e : OR c h μ x a) : ∃ o, h.get? a = some o := by
  cases x with
  | list xs => obtain ⟨items, n, h1, _⟩ := e; exact ⟨_, h1⟩
  | idict es => obtain ⟨kvs, ⟨o, es', ep, h1, _⟩, _⟩ := e; exact ⟨_, h1⟩
  | sdict es => obtain ⟨kvs, ⟨o, es', ep, h1, _⟩, _⟩ := e; exact ⟨_, h1⟩
  | junk => obtain ⟨x, y, h1⟩ := e; exact ⟨_, h1⟩
  | tdict es => obtain ⟨xs, ds, ep, h1, _⟩ := e; exact ⟨_, h1⟩

/-- all is well with the heap: the base stands, the tracked objects are as σ says -/
structure HG (c : Cx) (μ : List Addr) (σ : List O) (h : Heap) : Prop where
  ok : c.Ok
  base : ∀ a o, c.h₀.get? a = some o → h.get? a = some o
  new : ∀ a ∈ μ, c.h₀.get? a = none ∧ 1 < a
  nodup : μ.Nodup
  len : σ.length = μ.length
  rel : ∀ (i : Nat) (x : O) (a : Addr), σ[i]? = some x → μ[i]? = some a → OR c h μ x a

theorem HG.at {c : Cx} {μ : List Addr} {σ : List O} {h : Heap} (G : HG c μ σ h) {i : Nat} {x : O} (e : σ[i]? = some x) : ∃ a, μ[i]? = some a ∧ OR c h μ x a := by
  have hi : i < μ.length := G.len ▸ (List.getElem?_eq_some_iff.mp e).1
  exact ⟨μ[i], List.getElem?_eq_getElem hi, G.rel i x _ e (List.getElem?_eq_getElem hi)⟩
theorem HG.alive {c : Cx} {μ : List Addr} {σ : List O} {h : Heap} (G : HG c μ σ h) {a : Addr} (e : a ∈ μ) : ∃ o, h.get? a = some o := by
  obtain ⟨i, hi, rfl⟩ := List.getElem_of_mem e
  have hs : i < σ.length := G.len ▸ hi
  exact (G.rel i σ[i] _ (List.getElem?_eq_getElem hs) (List.getElem?_eq_getElem hi)).alive
theorem HG.lt {c : Cx} {μ : List Addr} {σ : List O} {h : Heap} (G : HG c μ σ h) {a : Addr} (e : a ∈ μ) : a < h.objs.size := let ⟨_, h⟩ := G.alive e; Heap.lt_size h
theorem HG.kin {c : Cx} {μ : List Addr} {σ : List O} {h : Heap} (G : HG c μ σ h) : c.K.In h := G.ok.x.keeps G.base
theorem HG.top {c : Cx} {μ : List Addr} {σ : List O} {h : Heap} (G : HG c μ σ h) : TopRead c.p c.loose c.mg c.mb h := G.ok.t.keeps G.base

/-- from (μ, h) to (μ', h'): all but the tracked objects and the stores in W stays -/
structure Step (W : List Addr) (μ : List Addr) (h : Heap) (μ' : List Addr) (h' : Heap) : Prop where
  alive : ∀ a o, h.get? a = some o → ∃ o', h'.get? a = some o'
  grow : ∃ ν, μ' = μ ++ ν ∧ ∀ a ∈ ν, h.get? a = none
  keep : ∀ a o, h.get? a = some o → a ∉ W → a ∉ μ → h'.get? a = some o

theorem Step.refl (W μ : List Addr) (h : Heap) : Step W μ h μ h := ⟨fun _ o e => ⟨o, e⟩, ⟨[], by simp, fun _ h => nomatch h⟩, fun _ _ e _ _ => e⟩
theorem Step.idx {W μ μ' : List Addr} {h h' : Heap} (K : Step W μ h μ' h') {n : Nat} {a : Addr} (e : μ[n]? = some a) : μ'[n]? = some a := by
  obtain ⟨ν, rfl, _⟩ := K.grow
  rw [List.getElem?_append_left (List.getElem?_eq_some_iff.mp e).1]; exact e
theorem Step.off {W μ μ' : List Addr} {h h' : Heap} (K : Step W μ h μ' h') {a : Addr} {o : Obj} (e : h.get? a = some o) (n : a ∉ μ) : a ∉ μ' := by
  obtain ⟨ν, rfl, hν⟩ := K.grow
  intro hm
  rcases List.mem_append.mp hm with hm | hm
  · exact n hm
  · rw [hν a hm] at e; cases e
theorem Step.trans {W μ μ' μ'' : List Addr} {h h' h'' : Heap} (a : Step W μ h μ' h') (b : Step W μ' h' μ'' h'') : Step W μ h μ'' h'' := by
  refine ⟨fun x o e => let ⟨o', e'⟩ := a.alive x o e; b.alive x o' e', ?_, fun x o e hw hm => b.keep x o (a.keep x o e hw hm) hw (a.off e hm)⟩
  have al := a.alive
  obtain ⟨ν, rfl, hν⟩ := a.grow
  obtain ⟨ν', rfl, hν'⟩ := b.grow
  refine ⟨ν ++ ν', by simp, fun x hx => ?_⟩
  rcases List.mem_append.mp hx with hx | hx
  · exact hν x hx
  · cases q : h.get? x with
    | none => rfl
    | some o => obtain ⟨o', e'⟩ := al x o q; rw [hν' x hx] at e'; cases e'
theorem Step.keeps {W μ μ' : List Addr} {h h' : Heap} (a : Step W μ h μ' h') (hW : ∀ x ∈ W, ∀ o, h.get? x = some o → isStore o) : Keep μ h μ' h' :=
  ⟨a.grow, fun x o e hm hs => a.keep x o e (fun hw => (hW x hw o e).not hs) hm⟩
theorem Step.keep0 {μ μ' : List Addr} {h h' : Heap} (a : Step [] μ h μ' h') : Keep μ h μ' h' := a.keeps fun _ h => nomatch h
theorem Step.widen {W μ μ' : List Addr} {h h' : Heap} (a : Step [] μ h μ' h') : Step W μ h μ' h' := ⟨a.alive, a.grow, fun x o e _ hm => a.keep x o e (fun h => nomatch h) hm⟩
theorem Step.vr {μ μ' : List Addr} {h h' : Heap} (a : Step [] μ h μ' h') {x : V} {v : Value} (e : VR h μ x v) : VR h' μ' x v := VR.mono a.keep0 _ _ e
theorem Step.vrs {μ μ' : List Addr} {h h' : Heap} (a : Step [] μ h μ' h') {x : List V} {v : List Value} (e : VRs h μ x v) : VRs h' μ' x v := VRs.mono a.keep0 _ _ e
/-- nothing tracked changes: all stays -/
theorem Step.of_keeps {μ : List Addr} {h h' : Heap} (k : ∀ a o, h.get? a = some o → h'.get? a = some o) : Step [] μ h μ h' :=
  ⟨fun a o e => ⟨o, k a o e⟩, ⟨[], by simp, fun _ h => nomatch h⟩, fun a o e _ _ => k a o e⟩
theorem HG.keeps {c : Cx} {μ : List Addr} {σ : List O} {h h' : Heap} (G : HG c μ σ h) (k : ∀ a o, h.get? a = some o → h'.get? a = some o) : HG c μ σ h' :=
  ⟨G.ok, fun a o e => k a o (G.base a o e), G.new, G.nodup, G.len, fun i x a e1 e2 => (G.rel i x a e1 e2).mono (Step.of_keeps k).keep0 fun o => k a o⟩

noncomputable abbrev Loc := Str → Option V
/-- the frame: its names hold what m says -/
structure FG (c : Cx) (sc : Scope) (env : Env) (m : Loc) (μ : List Addr) (h : Heap) : Prop where
  scope : env.scope = sc
  kind : sc.kind = .function
  glob : env.globals = mainGlobals
  blt : env.builtins = builtinsNs
  new : c.h₀.get? env.locals = none
  off : env.locals ∉ μ
  ns : ∃ mr, h.Ns env.locals mr ∧ ∀ x v, sc.names.lookup x = some .local → m x = some v → ∃ r, mr x = some r ∧ VR h μ v r
  cell : ∀ p ∈ env.cells, p.2 ∉ μ ∧ c.h₀.get? p.2 = none ∧ ∃ ov, h.IsCell p.2 ov
  apart : env.cells.Pairwise fun x y => x.2 ≠ y.2
  cls : ∀ x, (sc.names.lookup x = some .cell ∨ sc.names.lookup x = some .free) → ∃ k, env.cells.lookup x = some k ∧ ∀ v, m x = some v → ∃ r, h.IsCell k (some r) ∧ VR h μ v r

noncomputable def Wof (env : Env) : List Addr := env.locals :: env.cells.map (·.2)
theorem FG.store {c : Cx} {sc : Scope} {env : Env} {m : Loc} {μ : List Addr} {h : Heap} (F : FG c sc env m μ h) : ∀ x ∈ Wof env, ∀ o, h.get? x = some o → isStore o := by
  intro x hx o ho
  rcases List.mem_cons.mp hx with rfl | hx
  · obtain ⟨mr, ⟨o', es, ep, h1, h2, _⟩, _⟩ := F.ns
    rw [ho] at h1; cases h1; exact .inl ⟨_, _, h2⟩
  · obtain ⟨p, hp, rfl⟩ := List.mem_map.mp hx
    obtain ⟨_, _, ov, o', h1, h2⟩ := F.cell p hp
    rw [ho] at h1; cases h1; exact .inr ⟨_, h2⟩
theorem FG.step {c : Cx} {sc : Scope} {env : Env} {m : Loc} {μ μ' : List Addr} {h h' : Heap} (F : FG c sc env m μ h) (S : Step [] μ h μ' h') : FG c sc env m μ' h' where
  scope := F.scope
  kind := F.kind
  glob := F.glob
  blt := F.blt
  new := F.new
  off := by obtain ⟨mr, ⟨o, es, ep, h1, _⟩, _⟩ := F.ns; exact S.off h1 F.off
  ns := by
    obtain ⟨mr, hn, hv⟩ := F.ns
    refine ⟨mr, hn.at' fun o e => S.keep _ o e (fun h => nomatch h) F.off, fun x v hl hm => ?_⟩
    obtain ⟨r, h1, h2⟩ := hv x v hl hm
    exact ⟨r, h1, S.vr h2⟩
  cell := fun p hp => by
    obtain ⟨h1, h2, ov, o, h3, h4⟩ := F.cell p hp
    exact ⟨S.off h3 h1, h2, ov, o, S.keep _ o h3 (fun h => nomatch h) h1, h4⟩
  apart := F.apart
  cls := fun x hx => by
    obtain ⟨k, h1, h2⟩ := F.cls x hx
    refine ⟨k, h1, fun v hv => ?_⟩
    obtain ⟨r, ⟨o, h3, h4⟩, h5⟩ := h2 v hv
    exact ⟨r, ⟨o, S.keep _ o h3 (fun h => nomatch h) (F.cell _ (mem_of_lookup h1)).1, h4⟩, S.vr h5⟩

structure Room (n : Nat) (A : Around) : Prop where
  hand : A.handled = none
  depth : A.depth + 2 * n + 2 < 1000
  units : A.units + 20 * n + 100 < 9900
theorem Room.mono {n k : Nat} {A : Around} (R : Room n A) (h : k ≤ n) : Room k A := ⟨R.hand, by have := R.depth; (first | lia | omega), by have := R.units; (first | lia | omega)⟩

/-- the weakest precondition of a tree in a frame, over the abstract state -/
noncomputable def Wp (c : Cx) {α β : Type} (R : Heap → List Addr → β → α → Prop) (n : Nat) (sc : Scope) (m : Loc) (σ : List O) (t : Env → Sem α) (Φ : β → List O → Prop) : Prop :=
  ∀ (A : Around) (env : Env) (μ : List Addr) (s : Shared) (Q : α → Shared → Prop) (E : Value → Shared → Prop),
    Room n A → HG c μ σ s.heap → FG c sc env m μ s.heap →
    (∀ r v σ' μ' h' tk, Φ v σ' → Step [] μ s.heap μ' h' → HG c μ' σ' h' → R h' μ' v r → Q r { s with heap := h', toks := tk }) →
    wpAny (model c.prog c.w) A (t env) Q E s
noncomputable abbrev WpE (c : Cx) (n : Nat) (sc : Scope) (m : Loc) (σ : List O) (e : Expr) (Φ : V → List O → Prop) : Prop := Wp c VR n sc m σ (eval e) Φ
/-- arguments, items of a display -/
noncomputable abbrev WpEs (c : Cx) (n : Nat) (sc : Scope) (m : Loc) (σ : List O) (es : List Expr) (Φ : List V → List O → Prop) : Prop := Wp c VRs n sc m σ (fun env => spliced (es.map fun e => (false, eval e env))) Φ
/-- a test -/
noncomputable abbrev WpT (c : Cx) (n : Nat) (sc : Scope) (m : Loc) (σ : List O) (e : Expr) (Φ : Bool → List O → Prop) : Prop := Wp c (fun _ _ b b' => b = b') n sc m σ (fun env => isTrue e env (eval e env)) Φ
/-- a call of a callee with values -/
noncomputable def WpC (c : Cx) (n : Nat) (f : Value) (σ : List O) (xs : List V) (Φ : V → List O → Prop) : Prop :=
  ∀ (A : Around) (μ : List Addr) (s : Shared) (vs : List Value) (Q : Value → Shared → Prop) (E : Value → Shared → Prop),
    Room n A → HG c μ σ s.heap → VRs s.heap μ xs vs →
    (∀ r v σ' μ' h' tk, Φ v σ' → Step [] μ s.heap μ' h' → HG c μ' σ' h' → VR h' μ' v r → Q r { s with heap := h', toks := tk }) →
    wpAny (model c.prog c.w) A (call f vs) Q E s

section
variable {c : Cx} {n : Nat} {sc : Scope} {m : Loc} {σ : List O}
theorem Wp.mono {α β : Type} {R : Heap → List Addr → β → α → Prop} {t : Env → Sem α} {Φ Ψ : β → List O → Prop} (h : Wp c R n sc m σ t Φ) (hi : ∀ v σ', Φ v σ' → Ψ v σ') : Wp c R n sc m σ t Ψ :=
  fun A env μ s Q E hR hG hF k => h A env μ s Q E hR hG hF fun r v σ' μ' h' tk hΦ => k r v σ' μ' h' tk (hi v σ' hΦ)
theorem WpC.room {f : Value} {xs : List V} {Φ : V → List O → Prop} {k : Nat} (h : WpC c k f σ xs Φ) (hk : k ≤ n) : WpC c n f σ xs Φ :=
  fun A μ s vs Q E hR hG hv kk => h A μ s vs Q E (hR.mono hk) hG hv kk

theorem WpE_int {i : Int} {k : Nat} {pos : Pos} {Φ : V → List O → Prop} (h : Φ (.int i) σ) : WpE c n sc m σ (.Constant (.int i) k pos) Φ := by
  intro A env μ s Q E hR hG hF kk
  refine wpAny_Constant_int ?_
  exact kk _ (.int i) σ μ s.heap _ h (Step.refl _ _ _) hG ⟨_, rfl⟩
theorem WpE_str {i : Str} {k : Nat} {pos : Pos} {Φ : V → List O → Prop} (h : Φ (.str i) σ) : WpE c n sc m σ (.Constant (.str i) k pos) Φ := by
  intro A env μ s Q E hR hG hF kk
  refine Constant_str ?_
  exact kk _ (.str i) σ μ s.heap _ h (Step.refl _ _ _) hG ⟨_, rfl⟩
theorem WpE_bool {b : Bool} {k : Nat} {pos : Pos} {Φ : V → List O → Prop} (h : Φ (.bool b) σ) : WpE c n sc m σ (.Constant (.bool b) k pos) Φ := by
  intro A env μ s Q E hR hG hF kk
  exact wpAny_pure (kk _ (.bool b) σ μ s.heap s.toks h (Step.refl _ _ _) hG rfl)
theorem WpE_none {k : Nat} {pos : Pos} {Φ : V → List O → Prop} (h : Φ .none σ) : WpE c n sc m σ (.Constant .none k pos) Φ := by
  intro A env μ s Q E hR hG hF kk
  exact wpAny_pure (kk _ .none σ μ s.heap s.toks h (Step.refl _ _ _) hG rfl)

/-- a name of the frame -/
theorem WpE_name {x : Str} {pos : Pos} {v : V} {Φ : V → List O → Prop} (hv : m x = some v) (h : Φ v σ)
    (hk : sc.names.lookup x = some .local ∨ sc.names.lookup x = some .cell ∨ sc.names.lookup x = some .free := by decide +kernel) (hd : ((x == ("__debug__" : Str)) || (x == ("__classdict__" : Str))) = false := by decide +kernel) : WpE c n sc m σ (.Name x pos) Φ := by
  intro A env μ s Q E hR hG hF kk
  simp only [Bool.or_eq_false_iff] at hd
  have hkf : env.scope.kind = .function := hF.scope ▸ hF.kind
  have hko : env.kindOf x = sc.names.lookup x := by unfold Env.kindOf; rw [hF.scope]
  rcases hk with hk | hk
  · obtain ⟨mr, hn, hr⟩ := hF.ns
    obtain ⟨r, h1, h2⟩ := hr x v hk hv
    exact wpAny_Name (wpAny_loadName_local hkf (hko.trans hk) hn h1 (kk r v σ μ s.heap s.toks h (Step.refl _ _ _) hG h2)) hd.1
  · obtain ⟨k, h1, h2⟩ := hF.cls x hk
    obtain ⟨r, h3, h4⟩ := h2 v hv
    have fin := kk r v σ μ s.heap s.toks h (Step.refl _ _ _) hG h4
    rcases hk with hk | hk
    · exact wpAny_Name (wpAny_loadName_cell hkf (hko.trans hk) h1 h3 fin) hd.1
    · exact wpAny_Name (wpAny_loadName_free hkf (hko.trans hk) h1 h3 fin hd.2) hd.1

theorem WpEs_nil {Φ : List V → List O → Prop} (h : Φ [] σ) : WpEs c n sc m σ [] Φ := by
  intro A env μ s Q E hR hG hF kk
  exact wpAny_pure (kk [] [] σ μ s.heap s.toks h (Step.refl _ _ _) hG VRs.nil)
end
end Mine
end

/-! part L3 -/
section
open PySem PySem.W PySem.Calls PyProof.Rows
set_option Elab.async false
set_option autoImplicit false
namespace Mine

section
variable {c : Cx} {n : Nat} {sc : Scope} {m : Loc} {σ : List O}

/-- an alloc: a new object, nothing else -/
theorem Step.push {μ : List Addr} {h : Heap} (o : Obj) : Step [] μ h μ (h.push o) := Step.of_keeps fun _ _ e => Heap.get?_push_of_some _ e
theorem HG.push {μ : List Addr} {h : Heap} (G : HG c μ σ h) (o : Obj) : HG c μ σ (h.push o) := G.keeps fun _ _ e => Heap.get?_push_of_some _ e
theorem HG.size_off {μ : List Addr} {h : Heap} (G : HG c μ σ h) : h.objs.size ∉ μ := fun hm => absurd (G.lt hm) (Nat.lt_irrefl _)

/-- two ints -/
noncomputable def II (a b : V) (K : Int → Int → Prop) : Prop := match a with
  | .int x => (match b with | .int y => K x y | _ => False)
  | _ => False
theorem II.inv {a b : V} {K : Int → Int → Prop} (h : II a b K) : ∃ x y, a = .int x ∧ b = .int y ∧ K x y := by
  cases a with
  | int x => cases b with
    | int y => exact ⟨x, y, rfl, rfl, h⟩
    | _ => exact h.elim
  | _ => exact h.elim
/-- what an operator makes of two values -/
noncomputable def AddOk (a b : V) (k : V → Prop) : Prop := match a with
  | .int x => (match b with | .int y => k (.int (x + y)) | _ => False)
  | .tup xs => (match b with | .tup ys => xs.length + ys.length ≤ sizeLine ∧ k (.tup (xs ++ ys)) | _ => False)
  | .lst xs => (match b with | .lst ys => xs.length + ys.length ≤ sizeLine ∧ k (.lst (xs ++ ys)) | _ => False)
  | _ => False
noncomputable def BinOk (op : Operator) (a b : V) (k : V → Prop) : Prop :=
  match op with
  | .Add => AddOk a b k
  | .Sub => II a b fun x y => k (.int (x - y))
  | .Mult => II a b fun x y => (Builtin.Int.intBits x ≤ 64 ∨ Builtin.Int.intBits y ≤ 64) ∧ k (.int (x * y))
  | .FloorDiv => II a b fun x y => y ≠ 0 ∧ y.natAbs.log2 < 9000 ∧ k (.int (x.fdiv y))
  | .Mod => II a b fun x y => y ≠ 0 ∧ k (.int (x.fmod y))
  | .Pow => II a b fun x y => 0 ≤ y ∧ (Builtin.Int.intBits x : Int) * y ≤ 2 ^ 27 ∧ k (.int (x ^ y.toNat))
  | _ => False

theorem VR.int {h : Heap} {μ : List Addr} (i : Int) (t : Tok) : VR h μ (.int i) (.int i t) := ⟨t, rfl⟩
theorem VR.str {h : Heap} {μ : List Addr} (i : Str) (t : Tok) : VR h μ (.str i) (.str i t) := ⟨t, rfl⟩
theorem VR.bool {h : Heap} {μ : List Addr} (b : Bool) : VR h μ (.bool b) (.bool b) := rfl
theorem VR.nil {h : Heap} {μ : List Addr} : VR h μ .none .none := rfl
theorem VR.tup {h : Heap} {μ : List Addr} {a : Addr} {items : Array Value} {k : Nat} {xs : List V} (h1 : a ∉ μ) (h2 : h.get? a = some (tupO items k)) (h3 : VRs h μ xs items.toList) : VR h μ (.tup xs) (.ref a) :=
  ⟨a, items, k, rfl, h1, h2, h3⟩
theorem VR.lst {h : Heap} {μ : List Addr} {a : Addr} {items : Array Value} {k : Nat} {xs : List V} (h1 : a ∉ μ) (h2 : h.get? a = some (lstO items k)) (h3 : VRs h μ xs items.toList) : VR h μ (.lst xs) (.ref a) :=
  ⟨a, items, k, rfl, h1, h2, h3⟩
theorem VR.int_inv {h : Heap} {μ : List Addr} {i : Int} {v : Value} (e : VR h μ (.int i) v) : ∃ t, v = .int i t := e
theorem VR.str_inv {h : Heap} {μ : List Addr} {i : Str} {v : Value} (e : VR h μ (.str i) v) : ∃ t, v = .str i t := e
theorem VR.bool_inv {h : Heap} {μ : List Addr} {b : Bool} {v : Value} (e : VR h μ (.bool b) v) : v = .bool b := e
theorem VR.none_inv {h : Heap} {μ : List Addr} {v : Value} (e : VR h μ .none v) : v = .none := e
theorem VR.tup_inv {h : Heap} {μ : List Addr} {xs : List V} {v : Value} (e : VR h μ (.tup xs) v) : ∃ a items k, v = .ref a ∧ a ∉ μ ∧ h.get? a = some (tupO items k) ∧ VRs h μ xs items.toList := e
theorem VR.lst_inv {h : Heap} {μ : List Addr} {xs : List V} {v : Value} (e : VR h μ (.lst xs) v) : ∃ a items k, v = .ref a ∧ a ∉ μ ∧ h.get? a = some (lstO items k) ∧ VRs h μ xs items.toList := e
theorem VR.ref_inv {h : Heap} {μ : List Addr} {i : Nat} {v : Value} (e : VR h μ (.ref i) v) : ∃ a, v = .ref a ∧ μ[i]? = some a := e
theorem VR.inst_inv {h : Heap} {μ : List Addr} {C : Addr} {i : Nat} {v : Value} (e : VR h μ (.inst C i) v) : ∃ a d, v = .ref a ∧ a ∉ μ ∧ h.get? a = some (instObj C d) ∧ μ[i]? = some d := e
theorem VR.rng_inv {h : Heap} {μ : List Addr} {x y : Int} {v : Value} (e : VR h μ (.rng x y) v) : ∃ r t u w, v = .ref r ∧ r ∉ μ ∧ IsRange h r x y 1 t u w := e

theorem isList_of {h : Heap} {a : Addr} {items : Array Value} {k : Nat} (e : h.get? a = some (lstO items k)) : h.IsList a items := ⟨_, e, rfl, k, rfl⟩
theorem isTuple_of {h : Heap} {a : Addr} {items : Array Value} {k : Nat} (e : h.get? a = some (tupO items k)) : h.IsTuple a items := ⟨_, e, rfl, k, rfl⟩

/-- the continuation of a rule: what is to be shown at the end -/
noncomputable abbrev Kont (c : Cx) (μ : List Addr) (s : Shared) (Φ : V → List O → Prop) (Q : Value → Shared → Prop) : Prop :=
  ∀ r v σ' μ' h' tk, Φ v σ' → Step [] μ s.heap μ' h' → HG c μ' σ' h' → VR h' μ' v r → Q r { s with heap := h', toks := tk }

theorem Kont.same {c : Cx} {μ : List Addr} {s : Shared} {Φ : V → List O → Prop} {Q : Value → Shared → Prop} (k : Kont c μ s Φ Q) {v : V} {r : Value} {tk : Nat} (hG : HG c μ σ s.heap) (h : Φ v σ) (hr : VR s.heap μ v r) : Q r { s with toks := tk } :=
  k r v σ μ s.heap tk h (Step.refl _ _ _) hG hr
theorem Kont.here {c : Cx} {μ : List Addr} {s : Shared} {Φ : V → List O → Prop} {Q : Value → Shared → Prop} (k : Kont c μ s Φ Q) {v : V} {r : Value} (hG : HG c μ σ s.heap) (h : Φ v σ) (hr : VR s.heap μ v r) : Q r s :=
  k r v σ μ s.heap s.toks h (Step.refl _ _ _) hG hr
theorem Kont.pushed {c : Cx} {μ : List Addr} {s : Shared} {Φ : V → List O → Prop} {Q : Value → Shared → Prop} (k : Kont c μ s Φ Q) {v : V} {r : Value} {o : Obj} {tk : Nat} (hG : HG c μ σ s.heap) (h : Φ v σ) (hr : VR (s.heap.push o) μ v r) : Q r { s with heap := s.heap.push o, toks := tk } :=
  k r v σ μ _ tk h (Step.push _) (hG.push _) hr
theorem Kont.pushed' {c : Cx} {μ : List Addr} {s : Shared} {Φ : V → List O → Prop} {Q : Value → Shared → Prop} (k : Kont c μ s Φ Q) {v : V} {r : Value} {o : Obj} (hG : HG c μ σ s.heap) (h : Φ v σ) (hr : VR (s.heap.push o) μ v r) : Q r { s with heap := s.heap.push o } :=
  k r v σ μ _ s.toks h (Step.push _) (hG.push _) hr
theorem new_tup {μ : List Addr} {h : Heap} (hG : HG c μ σ h) {xs : List V} {vs : Array Value} (e : VRs h μ xs vs.toList) : VR (h.push (tupO vs 0)) μ (.tup xs) (.ref h.objs.size) :=
  VR.tup hG.size_off (Heap.get?_push_size _ rfl) ((Step.push (tupO vs 0)).vrs e)
theorem new_lst {μ : List Addr} {h : Heap} (hG : HG c μ σ h) {xs : List V} {vs : Array Value} (e : VRs h μ xs vs.toList) : VR (h.push (lstO vs 0)) μ (.lst xs) (.ref h.objs.size) :=
  VR.lst hG.size_off (Heap.get?_push_size _ rfl) ((Step.push (lstO vs 0)).vrs e)

theorem bin_sound {A : Around} {op : Operator} {a b : V} {ra rb : Value} {μ : List Addr} {s : Shared} {Φ : V → List O → Prop} {Q : Value → Shared → Prop} {E : Value → Shared → Prop}
    (hG : HG c μ σ s.heap) (ha : VR s.heap μ a ra) (hb : VR s.heap μ b rb) (h : BinOk op a b fun v => Φ v σ) (k : Kont c μ s Φ Q) :
    wpAny (model c.prog c.w) A (binaryOp op ra rb) Q E s := by
  cases op with
  | Add =>
    replace h : AddOk a b fun v => Φ v σ := h
    cases a with
    | int x => cases b with
      | int y => obtain ⟨t, rfl⟩ := ha.int_inv; obtain ⟨u, rfl⟩ := hb.int_inv; exact PyProof.Rows.add_int (k.same hG h (VR.int _ _))
      | _ => exact h.elim
    | tup xs => cases b with
      | tup ys =>
        replace h : xs.length + ys.length ≤ sizeLine ∧ Φ (.tup (xs ++ ys)) σ := h
        obtain ⟨x, i1, k1, rfl, n1, g1, e1⟩ := ha.tup_inv
        obtain ⟨y, i2, k2, rfl, n2, g2, e2⟩ := hb.tup_inv
        have l1 := e1.length; have l2 := e2.length
        simp only [Array.length_toList] at l1 l2
        by_cases hv : i1.isEmpty = true
        · refine concat_meets ⟨_, g1, rfl⟩ ⟨_, g2, rfl⟩ noFill_tuple_add seq_tuple_add PySem.F.slot_tuple_add PySem.F.entry_tuple_add (PySem.F.args_tuple_add_2 _ _) (tuple_addW0 x y i1 i2 k1 k2 _ _ _ _ hv) ⟨g1, g2, ?_⟩
          have : i1.toList = [] := by simpa [Array.isEmpty_iff] using hv
          rw [this] at e1
          cases xs with
          | nil => exact k.here hG h.2 (VR.tup n2 g2 e2)
          | cons _ _ => simp [VRs] at e1
        · by_cases hw : i2.isEmpty = true
          · refine concat_meets ⟨_, g1, rfl⟩ ⟨_, g2, rfl⟩ noFill_tuple_add seq_tuple_add PySem.F.slot_tuple_add PySem.F.entry_tuple_add (PySem.F.args_tuple_add_2 _ _) (tuple_addW1 x y i1 i2 k1 k2 _ _ _ _ hv hw) ⟨g1, g2, ?_⟩
            have : i2.toList = [] := by simpa [Array.isEmpty_iff] using hw
            rw [this] at e2
            cases ys with
            | nil => refine k.here hG h.2 ?_; rw [List.append_nil]; exact VR.tup n1 g1 e1
            | cons _ _ => simp [VRs] at e2
          · refine concat_meets ⟨_, g1, rfl⟩ ⟨_, g2, rfl⟩ noFill_tuple_add seq_tuple_add PySem.F.slot_tuple_add PySem.F.entry_tuple_add (PySem.F.args_tuple_add_2 _ _) (tuple_addW2 x y i1 i2 k1 k2 _ _ _ _ hv hw (by (first | lia | omega))) ⟨g1, g2, ?_⟩
            exact k.pushed hG h.2 (new_tup hG (by rw [Array.toList_append]; exact e1.append e2))
      | _ => exact h.elim
    | lst xs => cases b with
      | lst ys =>
        replace h : xs.length + ys.length ≤ sizeLine ∧ Φ (.lst (xs ++ ys)) σ := h
        obtain ⟨x, i1, k1, rfl, n1, g1, e1⟩ := ha.lst_inv
        obtain ⟨y, i2, k2, rfl, n2, g2, e2⟩ := hb.lst_inv
        have l1 := e1.length; have l2 := e2.length
        simp only [Array.length_toList] at l1 l2
        refine concat_meets ⟨_, g1, rfl⟩ ⟨_, g2, rfl⟩ noFill_list_add seq_list_add PySem.F.slot_list_add PySem.F.entry_list_add (PySem.F.args_list_add_2 _ _) (list_addW x y i1 i2 k1 k2 _ _ _ _ (by (first | lia | omega))) ⟨g1, g2, ?_⟩
        exact k.pushed hG h.2 (new_lst hG (by rw [Array.toList_append]; exact e1.append e2))
      | _ => exact h.elim
    | _ => exact h.elim
  | Sub => obtain ⟨x, y, rfl, rfl, h⟩ := II.inv h; obtain ⟨t, rfl⟩ := ha.int_inv; obtain ⟨u, rfl⟩ := hb.int_inv; exact PyProof.Rows.sub_int' (k.same hG h (VR.int _ _))
  | Mult => obtain ⟨x, y, rfl, rfl, h⟩ := II.inv h; obtain ⟨t, rfl⟩ := ha.int_inv; obtain ⟨u, rfl⟩ := hb.int_inv; exact PyProof.Rows.mul_int (k.same hG h.2 (VR.int _ _)) (h.1.elim IntMulOk.of_left IntMulOk.of_right)
  | FloorDiv => obtain ⟨x, y, rfl, rfl, h⟩ := II.inv h; obtain ⟨t, rfl⟩ := ha.int_inv; obtain ⟨u, rfl⟩ := hb.int_inv; exact PyProof.Rows.floordiv_int h.1 (k.same hG h.2.2 (VR.int _ _)) (.inl (PyProof.noPylong_of_log2 h.2.1))
  | Mod => obtain ⟨x, y, rfl, rfl, h⟩ := II.inv h; obtain ⟨t, rfl⟩ := ha.int_inv; obtain ⟨u, rfl⟩ := hb.int_inv; exact PyProof.Rows.mod_int' h.1 (k.same hG h.2 (VR.int _ _))
  | Pow => obtain ⟨x, y, rfl, rfl, h⟩ := II.inv h; obtain ⟨t, rfl⟩ := ha.int_inv; obtain ⟨u, rfl⟩ := hb.int_inv; exact PyProof.Rows.pow_int h.1 h.2.1 (k.same hG h.2.2 (VR.int _ _))
  | _ => exact h.elim

/-- a value, then another: the first is carried over -/
theorem two {α : Type} {A : Around} {env : Env} {μ : List Addr} {s : Shared} {E : Value → Shared → Prop} {Q : α → Shared → Prop} {e₁ e₂ : Expr} {f : Value → Value → Sem α} {Φ : V → List O → V → List O → Prop}
    (hR : Room n A) (hG : HG c μ σ s.heap) (hF : FG c sc env m μ s.heap)
    (h : WpE c n sc m σ e₁ fun a σ₁ => WpE c n sc m σ₁ e₂ fun b σ₂ => Φ a σ₁ b σ₂)
    (k : ∀ a b σ₁ σ₂ ra rb μ' h' tk, Φ a σ₁ b σ₂ → Step [] μ s.heap μ' h' → HG c μ' σ₂ h' → VR h' μ' a ra → VR h' μ' b rb → FG c sc env m μ' h' → wpAny (model c.prog c.w) A (f ra rb) Q E { s with heap := h', toks := tk }) :
    wpAny (model c.prog c.w) A (eval e₁ env) (fun a s₁ => wpAny (model c.prog c.w) A (eval e₂ env) (fun b s₂ => wpAny (model c.prog c.w) A (f a b) Q E s₂) E s₁) E s := by
  refine h A env μ s _ E hR hG hF fun ra a σ₁ μ₁ h₁ tk₁ ha S₁ G₁ v₁ => ?_
  have F₁ := hF.step S₁
  refine ha A env μ₁ _ _ E hR G₁ F₁ fun rb b σ₂ μ₂ h₂ tk₂ hb S₂ G₂ v₂ => ?_
  exact k a b σ₁ σ₂ ra rb μ₂ h₂ tk₂ hb (S₁.trans S₂) G₂ (S₂.vr v₁) v₂ (F₁.step S₂)

noncomputable abbrev binR (op : Operator) (Φ : V → List O → Prop) (a : V) : V → List O → Prop := fun b σ₂ => BinOk op a b fun v => Φ v σ₂
noncomputable abbrev binE (c : Cx) (n : Nat) (sc : Scope) (m : Loc) (op : Operator) (r : Expr) (Φ : V → List O → Prop) : V → List O → Prop := fun a σ₁ => WpE c n sc m σ₁ r (binR op Φ a)
theorem WpE_bin {op : Operator} {l r : Expr} {pos : Pos} {Φ : V → List O → Prop}
    (h : WpE c n sc m σ l (binE c n sc m op r Φ)) : WpE c n sc m σ (.BinOp l op r pos) Φ := by
  intro A env μ s Q E hR hG hF kk
  refine wpAny_BinOp (two hR hG hF h fun a b σ₁ σ₂ ra rb μ' h' tk hb S G va vb F => ?_)
  exact bin_sound G va vb hb fun r v σ' μ'' h'' tk' hΦ S' G' V' => kk r v σ' μ'' h'' tk' hΦ (S.trans S') G' V'
end
end Mine
end

/-! part L4 -/
section
open PySem PySem.W PySem.Calls PyProof.Rows
set_option Elab.async false
set_option autoImplicit false
namespace Mine

mutual
/-- a value as plain data -/
noncomputable def py : V → PyData
  | .none => .none
  | .bool b => .bool b
  | .int i => .int i
  | .str s => .str s
  | .tup xs => .tuple (pys xs)
  | .lst xs => .list (pys xs)
  | .ref _ => .none
  | .inst _ _ => .none
  | .rng _ _ => .none
noncomputable def pys : List V → List PyData
  | [] => []
  | x :: xs => py x :: pys xs
end
mutual
/-- plain data throughout, no deeper than n -/
noncomputable def isD : Nat → V → Bool
  | _, .none => true
  | _, .bool _ => true
  | _, .int _ => true
  | _, .str s => PyData.strOk s
  | 0, _ => false
  | n + 1, .tup xs => isDs n xs
  | n + 1, .lst xs => isDs n xs
  | _, .ref _ => false
  | _, .inst _ _ => false
  | _, .rng _ _ => false
noncomputable def isDs : Nat → List V → Bool
  | _, [] => true
  | n, x :: xs => isD n x && isDs n xs
end
theorem noB {p : Prop} (h : false = true) : p := nomatch h
mutual
theorem isD_py : ∀ (n : Nat) (x : V), isD n x = true → (py x).canLay0 = true ∧ (py x).depth ≤ n
  | n, .none, _ => ⟨rfl, Nat.zero_le _⟩
  | n, .bool b, _ => ⟨rfl, Nat.zero_le _⟩
  | n, .int b, _ => ⟨rfl, Nat.zero_le _⟩
  | 0, .str s, h => ⟨h, Nat.zero_le _⟩
  | n + 1, .str s, h => ⟨h, Nat.zero_le _⟩
  | 0, .tup xs, h => noB h
  | 0, .lst xs, h => noB h
  | n + 1, .tup xs, h => ⟨(isDs_py n xs h).1, Nat.succ_le_succ (isDs_py n xs h).2⟩
  | n + 1, .lst xs, h => ⟨(isDs_py n xs h).1, Nat.succ_le_succ (isDs_py n xs h).2⟩
  | n, .ref _, h => by cases n <;> exact noB h
  | n, .inst _ _, h => by cases n <;> exact noB h
  | n, .rng _ _, h => by cases n <;> exact noB h
theorem isDs_py : ∀ (n : Nat) (xs : List V), isDs n xs = true → PyData.canLayAll0 (pys xs) = true ∧ PyData.depthAll (pys xs) ≤ n
  | n, [], _ => ⟨rfl, Nat.zero_le _⟩
  | n, x :: xs, h =>
    have a := isD_py n x (Bool.and_eq_true_iff.mp h).1
    have b := isDs_py n xs (Bool.and_eq_true_iff.mp h).2
    ⟨Bool.and_eq_true_iff.mpr ⟨a.1, b.1⟩, Nat.max_le.mpr ⟨a.2, b.2⟩⟩
end
mutual
theorem VR.reads {h : Heap} {μ : List Addr} : ∀ (n : Nat) (x : V) (v : Value), isD n x = true → VR h μ x v → ∃ as, Reads h v (py x) as
  | _, .none, v, _, e => by cases e.none_inv; exact ⟨_, .none⟩
  | _, .bool b, v, _, e => by cases e.bool_inv; exact ⟨_, .bool b⟩
  | _, .int i, v, _, e => by obtain ⟨t, rfl⟩ := e.int_inv; exact ⟨_, .int i t⟩
  | _, .str s, v, _, e => by obtain ⟨t, rfl⟩ := e.str_inv; exact ⟨_, .str s t⟩
  | 0, .tup xs, v, h, _ => noB h
  | 0, .lst xs, v, h, _ => noB h
  | n + 1, .tup xs, v, hd, e => by
    obtain ⟨a, items, k, rfl, _, h2, h3⟩ := e.tup_inv
    obtain ⟨as, r⟩ := VRs.reads n xs _ hd h3
    exact ⟨_, .tuple h2 rfl rfl r⟩
  | n + 1, .lst xs, v, hd, e => by
    obtain ⟨a, items, k, rfl, _, h2, h3⟩ := e.lst_inv
    obtain ⟨as, r⟩ := VRs.reads n xs _ hd h3
    exact ⟨_, .list h2 rfl rfl r⟩
  | n, .ref _, v, hd, _ => by cases n <;> exact noB hd
  | n, .inst _ _, v, hd, _ => by cases n <;> exact noB hd
  | n, .rng _ _, v, hd, _ => by cases n <;> exact noB hd
theorem VRs.reads {h : Heap} {μ : List Addr} : ∀ (n : Nat) (xs : List V) (vs : List Value), isDs n xs = true → VRs h μ xs vs → ∃ as, ReadsAll h vs (pys xs) as
  | _, [], vs, _, e => by cases VRs.nil_inv e; exact ⟨_, .nil⟩
  | n, x :: xs, vs, hd, e => by
    obtain ⟨v, ws, rfl, e1, e2⟩ := VRs.uncons e
    obtain ⟨as, r⟩ := VR.reads n x v (Bool.and_eq_true_iff.mp hd).1 e1
    obtain ⟨bs, rs⟩ := VRs.reads n xs ws (Bool.and_eq_true_iff.mp hd).2 e2
    exact ⟨_, .cons r rs⟩
end
/-- Python's == of plain data -/
noncomputable def eqV (a b : V) : Bool := PyData.eqv (py a) (py b)

noncomputable def InsOk (a b : V) (K : List V → Prop) : Prop := match b with
  | .lst xs => isD 8 a = true ∧ isDs 8 xs = true ∧ K xs
  | .tup xs => isD 8 a = true ∧ isDs 8 xs = true ∧ K xs
  | _ => False
noncomputable def CmpOk (op : CmpOp) (a b : V) (k : Bool → Prop) : Prop :=
  match op with
  | .Eq => isD 8 a = true ∧ isD 8 b = true ∧ k (eqV a b)
  | .NotEq => isD 8 a = true ∧ isD 8 b = true ∧ k (!eqV a b)
  | .Lt => II a b fun x y => k (decide (x < y))
  | .LtE => II a b fun x y => k (decide (x ≤ y))
  | .Gt => II a b fun x y => k (decide (y < x))
  | .GtE => II a b fun x y => k (decide (y ≤ x))
  | .In => InsOk a b fun xs => k (xs.any fun y => eqV y a)
  | .NotIn => InsOk a b fun xs => k (!xs.any fun y => eqV y a)
  | _ => False

theorem pys_any (xs : List V) (a : V) : ((pys xs).any fun y => PyData.eqv y (py a)) = xs.any fun y => eqV y a := by
  induction xs with
  | nil => rfl
  | cons x xs ih => show (PyData.eqv (py x) (py a) || ((pys xs).any fun y => PyData.eqv y (py a))) = _; rw [ih]; rfl

section
variable {c : Cx} {n : Nat} {sc : Scope} {m : Loc} {σ : List O}

theorem cmp_sound {A : Around} {op : CmpOp} {a b : V} {ra rb : Value} {μ : List Addr} {s : Shared} {Φ : V → List O → Prop} {Q : Value → Shared → Prop} {E : Value → Shared → Prop}
    (hR : Room n A) (hG : HG c μ σ s.heap) (ha : VR s.heap μ a ra) (hb : VR s.heap μ b rb) (h : CmpOk op a b fun v => Φ (.bool v) σ) (k : Kont c μ s Φ Q) :
    wpAny (model c.prog c.w) A (compareOp op ra rb) Q E s := by
  have hu : A.units + 64 < cLine := by have := hR.units; unfold cLine; (first | lia | omega)
  have fin : ∀ {v : Bool}, Φ (.bool v) σ → Q (.bool v) s := fun hv => k.here hG hv (VR.bool _)
  have shp : ∀ {v : V} (h1 : isD 8 v = true), SeqAt.shaped (py v) = true := fun h1 => by have l1 := isD_py 8 _ h1; unfold SeqAt.shaped; rw [l1.1]; simp; (first | lia | omega)
  have dep : ∀ {xs : List V} (h1 : isD 8 a = true) (h2 : isDs 8 xs = true), min (PyData.depthAll (pys xs)) (py a).depth ≤ 8 := fun h1 h2 => Nat.le_trans (Nat.min_le_right _ _) (isD_py 8 a h1).2
  cases op with
  | Eq =>
    obtain ⟨h1, h2, h3⟩ := h
    obtain ⟨as, r1⟩ := VR.reads 8 a ra h1 ha
    obtain ⟨bs, r2⟩ := VR.reads 8 b rb h2 hb
    exact SeqAt.compareEq_shaped r1 r2 (shp h1) (shp h2) hu (fin h3)
  | NotEq =>
    obtain ⟨h1, h2, h3⟩ := h
    obtain ⟨as, r1⟩ := VR.reads 8 a ra h1 ha
    obtain ⟨bs, r2⟩ := VR.reads 8 b rb h2 hb
    exact SeqAt.compareNe_shaped r1 r2 (shp h1) (shp h2) hu (fin h3)
  | Lt => obtain ⟨x, y, rfl, rfl, h⟩ := II.inv h; obtain ⟨t, rfl⟩ := ha.int_inv; obtain ⟨u, rfl⟩ := hb.int_inv; exact PyProof.Rows.lt_int (fin h)
  | LtE => obtain ⟨x, y, rfl, rfl, h⟩ := II.inv h; obtain ⟨t, rfl⟩ := ha.int_inv; obtain ⟨u, rfl⟩ := hb.int_inv; exact PyProof.Rows.le_int (fin h)
  | Gt => obtain ⟨x, y, rfl, rfl, h⟩ := II.inv h; obtain ⟨t, rfl⟩ := ha.int_inv; obtain ⟨u, rfl⟩ := hb.int_inv; exact PyProof.Rows.gt_int (fin h)
  | GtE => obtain ⟨x, y, rfl, rfl, h⟩ := II.inv h; obtain ⟨t, rfl⟩ := ha.int_inv; obtain ⟨u, rfl⟩ := hb.int_inv; exact PyProof.Rows.ge_int (fin h)
  | In =>
    cases b with
    | lst xs =>
      obtain ⟨h1, h2, h3⟩ := h
      obtain ⟨as, r1⟩ := VR.reads 8 a ra h1 ha
      obtain ⟨bs, r2⟩ := VR.reads 9 (.lst xs) rb h2 hb
      exact SeqAt.in_list_reads r2 r1 (isDs_py 8 xs h2).1 (isD_py 8 a h1).1 (by have := dep h1 h2; (first | lia | omega)) (by rw [pys_any]; exact fin h3)
    | tup xs =>
      obtain ⟨h1, h2, h3⟩ := h
      obtain ⟨as, r1⟩ := VR.reads 8 a ra h1 ha
      obtain ⟨bs, r2⟩ := VR.reads 9 (.tup xs) rb h2 hb
      exact SeqAt.in_tuple_reads r2 r1 (isDs_py 8 xs h2).1 (isD_py 8 a h1).1 (by have := dep h1 h2; (first | lia | omega)) (by rw [pys_any]; exact fin h3)
    | _ => exact h.elim
  | NotIn =>
    cases b with
    | lst xs =>
      obtain ⟨h1, h2, h3⟩ := h
      obtain ⟨as, r1⟩ := VR.reads 8 a ra h1 ha
      obtain ⟨bs, r2⟩ := VR.reads 9 (.lst xs) rb h2 hb
      exact SeqAt.notIn_list_reads r2 r1 (isDs_py 8 xs h2).1 (isD_py 8 a h1).1 (by have := dep h1 h2; (first | lia | omega)) (by rw [pys_any]; exact fin h3)
    | tup xs =>
      obtain ⟨h1, h2, h3⟩ := h
      obtain ⟨as, r1⟩ := VR.reads 8 a ra h1 ha
      obtain ⟨bs, r2⟩ := VR.reads 9 (.tup xs) rb h2 hb
      exact SeqAt.notIn_tuple_reads r2 r1 (isDs_py 8 xs h2).1 (isD_py 8 a h1).1 (by have := dep h1 h2; (first | lia | omega)) (by rw [pys_any]; exact fin h3)
    | _ => exact h.elim
  | _ => exact h.elim

noncomputable def TruOk (a : V) (k : Bool → Prop) : Prop :=
  match a with
  | .bool b => k b
  | _ => False
theorem tru_sound {A : Around} {a : V} {ra : Value} {μ : List Addr} {s : Shared} {k : Bool → Prop} {Q : Bool → Shared → Prop} {E : Value → Shared → Prop}
    (ha : VR s.heap μ a ra) (h : TruOk a k) (kk : ∀ b, k b → Q b s) : wpAny (model c.prog c.w) A (truthy ra) Q E s := by
  cases a with
  | bool b => rw [ha.bool_inv]; exact wpAny_truthy_bool (kk _ h)
  | _ => exact h.elim

noncomputable abbrev cmpR (op : CmpOp) (Φ : V → List O → Prop) (a : V) : V → List O → Prop := fun b σ₂ => CmpOk op a b fun v => Φ (.bool v) σ₂
noncomputable abbrev cmpE (c : Cx) (n : Nat) (sc : Scope) (m : Loc) (op : CmpOp) (r : Expr) (Φ : V → List O → Prop) : V → List O → Prop := fun a σ₁ => WpE c n sc m σ₁ r (cmpR op Φ a)
theorem WpE_cmp {op : CmpOp} {l r : Expr} {pos : Pos} {Φ : V → List O → Prop}
    (h : WpE c n sc m σ l (cmpE c n sc m op r Φ)) (hm : behindInMarks op r = false := by rfl) : WpE c n sc m σ (.Compare l [op] [r] pos) Φ := by
  intro A env μ s Q E hR hG hF kk
  refine wpAny_Compare1 (two hR hG hF h fun a b σ₁ σ₂ ra rb μ' h' tk hb S G va vb F => ?_) hm
  exact cmp_sound hR G va vb hb fun r v σ' μ'' h'' tk' hΦ S' G' V' => kk r v σ' μ'' h'' tk' hΦ (S.trans S') G' V'

noncomputable abbrev cmpTR (op : CmpOp) (Φ : Bool → List O → Prop) (a : V) : V → List O → Prop := fun b σ₂ => CmpOk op a b fun v => Φ v σ₂
noncomputable abbrev cmpT (c : Cx) (n : Nat) (sc : Scope) (m : Loc) (op : CmpOp) (r : Expr) (Φ : Bool → List O → Prop) : V → List O → Prop := fun a σ₁ => WpE c n sc m σ₁ r (cmpTR op Φ a)
theorem WpT_cmp {op : CmpOp} {l r : Expr} {pos : Pos} {Φ : Bool → List O → Prop}
    (h : WpE c n sc m σ l (cmpT c n sc m op r Φ)) (hm : behindInMarks op r = false := by rfl) : WpT c n sc m σ (.Compare l [op] [r] pos) Φ := by
  intro A env μ s Q E hR hG hF kk
  refine wpAny_isTrue_Compare1 (two hR hG hF h fun a b σ₁ σ₂ ra rb μ' h' tk hb S G va vb F => ?_) hm
  refine cmp_sound (Φ := fun v σ' => match v with | .bool b => Φ b σ' | _ => False) hR G va vb hb fun r v σ' μ'' h'' tk' hΦ S' G' V' => ?_
  cases v with
  | bool b =>
    rw [V'.bool_inv]
    exact wpAny_truthy_bool (kk b b σ' μ'' h'' tk' hΦ (S.trans S') G' rfl)
  | _ => exact hΦ.elim

/-- a test that is none of not, and, or, if, a comparison -/
noncomputable abbrev truK (Φ : Bool → List O → Prop) : V → List O → Prop := fun a σ₁ => TruOk a fun b => Φ b σ₁
theorem WpT_plain {e : Expr} {Φ : Bool → List O → Prop} (h : WpE c n sc m σ e (truK Φ))
    (he : ∀ (env : Env) (whole : Sem Value), isTrue e env whole = (do let v ← whole; standAt e.pos; holding [v] (truthy v)) := by intro _ _; rfl) : WpT c n sc m σ e Φ := by
  intro A env μ s Q E hR hG hF kk
  refine isTrue_plain (h A env μ s _ E hR hG hF fun r v σ' μ' h' tk hv S G V => ?_) (he _ _)
  exact tru_sound V hv fun b hb => kk b b σ' μ' h' tk hb S G rfl
noncomputable abbrev notT (Φ : Bool → List O → Prop) : Bool → List O → Prop := fun b σ₁ => Φ (!b) σ₁
theorem WpT_not {e : Expr} {pos : Pos} {Φ : Bool → List O → Prop} (h : WpT c n sc m σ e (notT Φ)) : WpT c n sc m σ (.UnaryOp .Not e pos) Φ := by
  intro A env μ s Q E hR hG hF kk
  refine PyProof.Rows.isTrue_not (h A env μ s _ E hR hG hF fun r b σ' μ' h' tk hv S G V => ?_)
  subst V; exact kk _ _ σ' μ' h' tk hv S G rfl
theorem WpT_and_nil {pos : Pos} {Φ : Bool → List O → Prop} (h : Φ true σ) : WpT c n sc m σ (.BoolOp .And [] pos) Φ := by
  intro A env μ s Q E hR hG hF kk
  exact isTrue_and_nil (kk _ _ σ μ s.heap s.toks h (Step.refl _ _ _) hG rfl)
theorem WpT_or_nil {pos : Pos} {Φ : Bool → List O → Prop} (h : Φ false σ) : WpT c n sc m σ (.BoolOp .Or [] pos) Φ := by
  intro A env μ s Q E hR hG hF kk
  exact isTrue_or_nil (kk _ _ σ μ s.heap s.toks h (Step.refl _ _ _) hG rfl)
noncomputable abbrev andT (c : Cx) (n : Nat) (sc : Scope) (m : Loc) (rest : List Expr) (pos : Pos) (Φ : Bool → List O → Prop) : Bool → List O → Prop := fun b σ₁ => if b then WpT c n sc m σ₁ (.BoolOp .And rest pos) Φ else Φ false σ₁
theorem WpT_and {e : Expr} {rest : List Expr} {pos : Pos} {Φ : Bool → List O → Prop} (h : WpT c n sc m σ e (andT c n sc m rest pos Φ)) : WpT c n sc m σ (.BoolOp .And (e :: rest) pos) Φ := by
  intro A env μ s Q E hR hG hF kk
  refine isTrue_and (h A env μ s _ E hR hG hF fun r b σ' μ' h' tk hv S G V => ?_)
  subst V
  cases b with
  | true => exact hv A env μ' _ Q E hR G (hF.step S) fun r v σ'' μ'' h'' tk' hΦ S' G' V' => kk r v σ'' μ'' h'' tk' hΦ (S.trans S') G' V'
  | false => exact kk _ _ σ' μ' h' tk hv S G rfl
noncomputable abbrev orT (c : Cx) (n : Nat) (sc : Scope) (m : Loc) (rest : List Expr) (pos : Pos) (Φ : Bool → List O → Prop) : Bool → List O → Prop := fun b σ₁ => if b then Φ true σ₁ else WpT c n sc m σ₁ (.BoolOp .Or rest pos) Φ
theorem WpT_or {e : Expr} {rest : List Expr} {pos : Pos} {Φ : Bool → List O → Prop} (h : WpT c n sc m σ e (orT c n sc m rest pos Φ)) : WpT c n sc m σ (.BoolOp .Or (e :: rest) pos) Φ := by
  intro A env μ s Q E hR hG hF kk
  refine isTrue_or (h A env μ s _ E hR hG hF fun r b σ' μ' h' tk hv S G V => ?_)
  subst V
  cases b with
  | false => exact hv A env μ' _ Q E hR G (hF.step S) fun r v σ'' μ'' h'' tk' hΦ S' G' V' => kk r v σ'' μ'' h'' tk' hΦ (S.trans S') G' V'
  | true => exact kk _ _ σ' μ' h' tk hv S G rfl
noncomputable abbrev ifE (c : Cx) (n : Nat) (sc : Scope) (m : Loc) (body orelse : Expr) (Φ : V → List O → Prop) : Bool → List O → Prop := fun b σ₁ => if b then WpE c n sc m σ₁ body Φ else WpE c n sc m σ₁ orelse Φ
theorem WpE_if {test body orelse : Expr} {pos : Pos} {Φ : V → List O → Prop} (h : WpT c n sc m σ test (ifE c n sc m body orelse Φ)) : WpE c n sc m σ (.IfExp test body orelse pos) Φ := by
  intro A env μ s Q E hR hG hF kk
  refine IfExp_ (h A env μ s _ E hR hG hF fun r b σ' μ' h' tk hv S G V => ?_)
  subst V
  cases b <;> exact hv A env μ' _ Q E hR G (hF.step S) fun r v σ'' μ'' h'' tk' hΦ S' G' V' => kk r v σ'' μ'' h'' tk' hΦ (S.trans S') G' V'
noncomputable abbrev andE (c : Cx) (n : Nat) (sc : Scope) (m : Loc) (rest : List Expr) (pos : Pos) (Φ : V → List O → Prop) : V → List O → Prop := fun a σ₁ => TruOk a fun b => if b then WpE c n sc m σ₁ (.BoolOp .And rest pos) Φ else Φ a σ₁
theorem WpE_and {e e₂ : Expr} {rest : List Expr} {pos : Pos} {Φ : V → List O → Prop} (h : WpE c n sc m σ e (andE c n sc m (e₂ :: rest) pos Φ)) : WpE c n sc m σ (.BoolOp .And (e :: e₂ :: rest) pos) Φ := by
  intro A env μ s Q E hR hG hF kk
  refine BoolOp_and (h A env μ s _ E hR hG hF fun r a σ' μ' h' tk hv S G V => ?_)
  refine tru_sound V hv fun b hb => ?_
  cases b with
  | true => exact hb A env μ' _ Q E hR G (hF.step S) fun r v σ'' μ'' h'' tk' hΦ S' G' V' => kk r v σ'' μ'' h'' tk' hΦ (S.trans S') G' V'
  | false => exact kk _ _ σ' μ' h' tk hb S G V
noncomputable abbrev orE (c : Cx) (n : Nat) (sc : Scope) (m : Loc) (rest : List Expr) (pos : Pos) (Φ : V → List O → Prop) : V → List O → Prop := fun a σ₁ => TruOk a fun b => if b then Φ a σ₁ else WpE c n sc m σ₁ (.BoolOp .Or rest pos) Φ
theorem WpE_or {e e₂ : Expr} {rest : List Expr} {pos : Pos} {Φ : V → List O → Prop} (h : WpE c n sc m σ e (orE c n sc m (e₂ :: rest) pos Φ)) : WpE c n sc m σ (.BoolOp .Or (e :: e₂ :: rest) pos) Φ := by
  intro A env μ s Q E hR hG hF kk
  refine BoolOp_or (h A env μ s _ E hR hG hF fun r a σ' μ' h' tk hv S G V => ?_)
  refine tru_sound V hv fun b hb => ?_
  cases b with
  | false => exact hb A env μ' _ Q E hR G (hF.step S) fun r v σ'' μ'' h'' tk' hΦ S' G' V' => kk r v σ'' μ'' h'' tk' hΦ (S.trans S') G' V'
  | true => exact kk _ _ σ' μ' h' tk hb S G V
theorem WpE_bool1 {op : BoolOp} {e : Expr} {pos : Pos} {Φ : V → List O → Prop} (h : WpE c n sc m σ e Φ) : WpE c n sc m σ (.BoolOp op [e] pos) Φ :=
  fun A env μ s Q E hR hG hF kk => BoolOp_one (h A env μ s Q E hR hG hF kk)

noncomputable abbrev negK (Φ : V → List O → Prop) : V → List O → Prop := fun a σ₁ => match a with | .int i => Φ (.int (-i)) σ₁ | _ => False
theorem WpE_neg {e : Expr} {pos : Pos} {Φ : V → List O → Prop} (h : WpE c n sc m σ e (negK Φ)) : WpE c n sc m σ (.UnaryOp .USub e pos) Φ := by
  intro A env μ s Q E hR hG hF kk
  refine UnaryOp_ (h A env μ s _ E hR hG hF fun r a σ' μ' h' tk hv S G V => ?_)
  cases a with
  | int i =>
    obtain ⟨t, rfl⟩ := V.int_inv
    exact PyProof.Rows.neg_int (kk _ _ σ' μ' h' _ hv S G (VR.int _ _))
  | _ => exact hv.elim
noncomputable abbrev notE (Φ : V → List O → Prop) : V → List O → Prop := fun a σ₁ => TruOk a fun b => Φ (.bool (!b)) σ₁
theorem WpE_not {e : Expr} {pos : Pos} {Φ : V → List O → Prop} (h : WpE c n sc m σ e (notE Φ)) : WpE c n sc m σ (.UnaryOp .Not e pos) Φ := by
  intro A env μ s Q E hR hG hF kk
  refine UnaryOp_ (h A env μ s _ E hR hG hF fun r a σ' μ' h' tk hv S G V => ?_)
  refine PyProof.Rows.not_of (tru_sound V hv fun b hb => ?_)
  exact kk _ _ σ' μ' h' tk hb S G (VR.bool _)
end
end Mine
end

/-! part L5 -/
section
open PySem PySem.W PySem.Calls PyProof.Rows
set_option Elab.async false
set_option autoImplicit false
namespace Mine

/-- an item by Python's index -/
noncomputable def pyIdx (xs : List V) (i : Int) : Option V :=
  if 0 ≤ i then xs[i.toNat]? else if 0 ≤ i + xs.length then xs[(i + xs.length).toNat]? else none
noncomputable def getK {α : Type} [DecidableEq α] (es : List (α × V)) (k : α) : Option V := (es.find? fun e => decide (e.1 = k)).map (·.2)

theorem pyIdx_real {h : Heap} {μ : List Addr} {xs : List V} {vs : Array Value} (e : VRs h μ xs vs.toList) {i : Int} {x : V} (hx : pyIdx xs i = some x) : ∃ j v, seqIndex? i vs.size = some j ∧ vs[j]? = some v ∧ VR h μ x v := by
  have hl := e.length
  simp only [Array.length_toList] at hl
  unfold pyIdx at hx
  split at hx
  · rename_i h0
    obtain ⟨v, h1, h2⟩ := e.get hx
    have hlt := (List.getElem?_eq_some_iff.mp h1).1
    simp only [Array.length_toList] at hlt
    exact ⟨i.toNat, v, seqIndex_of h0 (by (first | lia | omega)), by simpa using h1, h2⟩
  · rename_i h0
    split at hx
    · rename_i h1
      rw [← hl] at hx
      obtain ⟨v, h2, h3⟩ := e.get hx
      exact ⟨_, v, seqIndex_neg (by (first | lia | omega)) (by (first | lia | omega)), by simpa using h2, h3⟩
    · cases hx

section
variable {c : Cx} {n : Nat} {sc : Scope} {m : Loc} {σ : List O}

noncomputable abbrev consR (Φ : List V → List O → Prop) (a : V) : List V → List O → Prop := fun xs σ₂ => Φ (a :: xs) σ₂
noncomputable abbrev consE (c : Cx) (n : Nat) (sc : Scope) (m : Loc) (es : List Expr) (Φ : List V → List O → Prop) : V → List O → Prop := fun a σ₁ => WpEs c n sc m σ₁ es (consR Φ a)
theorem WpEs_cons {e : Expr} {es : List Expr} {Φ : List V → List O → Prop} (h : WpE c n sc m σ e (consE c n sc m es Φ)) : WpEs c n sc m σ (e :: es) Φ := by
  intro A env μ s Q E hR hG hF kk
  refine Calls.spliced_cons (h A env μ s _ E hR hG hF fun r a σ₁ μ₁ h₁ tk₁ ha S₁ G₁ V₁ => ?_)
  refine ha A env μ₁ _ _ E hR G₁ (hF.step S₁) fun rs xs σ₂ μ₂ h₂ tk₂ hx S₂ G₂ V₂ => ?_
  exact kk _ _ σ₂ μ₂ h₂ tk₂ hx (S₁.trans S₂) G₂ (VRs.cons (S₂.vr V₁) V₂)

theorem get_size (h : Heap) : h.get? h.objs.size = none := by
  cases q : h.get? h.objs.size with
  | none => rfl
  | some o => exact absurd (Heap.lt_size q) (Nat.lt_irrefl _)
theorem HG.fresh {μ : List Addr} {h : Heap} (G : HG c μ σ h) {a : Addr} (e : h.get? a = none) : c.h₀.get? a = none := by
  cases q : c.h₀.get? a with
  | none => rfl
  | some o => rw [G.base a o q] at e; cases e
theorem HG.two {μ : List Addr} {h : Heap} (G : HG c μ σ h) : 1 < h.objs.size := by
  obtain ⟨o, es, ep, h1, _⟩ := G.top.g
  exact Nat.lt_trans (by decide) (Heap.lt_size h1)
theorem HG.alloc {μ : List Addr} {h : Heap} (G : HG c μ σ h) (o : Obj) {x : O} (e : OR c (h.push o) (μ ++ [h.objs.size]) x h.objs.size) :
    HG c (μ ++ [h.objs.size]) (σ ++ [x]) (h.push o) ∧ Step [] μ h (μ ++ [h.objs.size]) (h.push o) := by
  have S : Step [] μ h (μ ++ [h.objs.size]) (h.push o) := ⟨fun a o' q => ⟨o', Heap.get?_push_of_some _ q⟩, ⟨_, rfl, fun a ha => by rw [List.mem_singleton.mp ha]; exact get_size h⟩, fun a o' q _ _ => Heap.get?_push_of_some _ q⟩
  refine ⟨⟨G.ok, fun a o' q => Heap.get?_push_of_some _ (G.base a o' q), ?_, ?_, by simp [G.len], ?_⟩, S⟩
  · intro a ha
    rcases List.mem_append.mp ha with ha | ha
    · exact G.new a ha
    · rw [List.mem_singleton.mp ha]; exact ⟨G.fresh (get_size h), G.two⟩
  · refine List.nodup_append.mpr ⟨G.nodup, (by simp), fun a ha b hb => ?_⟩
    rw [List.mem_singleton.mp hb]
    rintro rfl
    exact G.size_off ha
  · intro i y a h1 h2
    by_cases hi : i < σ.length
    · rw [List.getElem?_append_left hi] at h1
      rw [List.getElem?_append_left (G.len ▸ hi)] at h2
      exact (G.rel i y a h1 h2).mono S.keep0 fun o' q => Heap.get?_push_of_some _ q
    · have hi' : i = σ.length := by
        have := (List.getElem?_eq_some_iff.mp h1).1
        simp at this; (first | lia | omega)
      subst hi'
      rw [List.getElem?_append_right (Nat.le_refl _)] at h1
      rw [G.len, List.getElem?_append_right (Nat.le_refl _)] at h2
      simp at h1 h2
      subst h1; subst h2
      exact e

theorem newTuple_sound {A : Around} {xs : List V} {vs : List Value} {μ : List Addr} {s : Shared} {Φ : V → List O → Prop} {Q : Value → Shared → Prop} {E : Value → Shared → Prop}
    (hG : HG c μ σ s.heap) (hv : VRs s.heap μ xs vs) (hz : xs.length ≤ sizeLine) (h : Φ (.tup xs) σ) (k : Kont c μ s Φ Q) : wpAny (model c.prog c.w) A (newTuple vs) Q E s := by
  have hl := hv.length
  refine wpAny_newObj_type ?_ (by show vs.toArray.size ≤ sizeLine; rw [List.size_toArray]; (first | lia | omega))
  exact k.pushed' hG h (new_tup hG hv)
theorem newList_sound {A : Around} {xs : List V} {vs : List Value} {μ : List Addr} {s : Shared} {Φ : V → List O → Prop} {Q : Value → Shared → Prop} {E : Value → Shared → Prop}
    (hG : HG c μ σ s.heap) (hv : VRs s.heap μ xs vs) (hz : xs.length ≤ sizeLine) (h : Φ (.lst xs) σ) (k : Kont c μ s Φ Q) : wpAny (model c.prog c.w) A (newList vs) Q E s := by
  have hl := hv.length
  refine wpAny_newObj_type ?_ (by show vs.toArray.size ≤ sizeLine; rw [List.size_toArray]; (first | lia | omega))
  exact k.pushed' hG h (new_lst hG hv)
theorem newListT_sound {A : Around} {xs : List V} {vs : List Value} {μ : List Addr} {s : Shared} {Φ : V → List O → Prop} {Q : Value → Shared → Prop} {E : Value → Shared → Prop}
    (hG : HG c μ σ s.heap) (hv : VRs s.heap μ xs vs) (hz : xs.length ≤ sizeLine) (h : Φ (.ref σ.length) (σ ++ [.list xs])) (k : Kont c μ s Φ Q) : wpAny (model c.prog c.w) A (newList vs) Q E s := by
  have hl := hv.length
  refine wpAny_newObj_type ?_ (by show vs.toArray.size ≤ sizeLine; rw [List.size_toArray]; (first | lia | omega))
  have T : Keep μ s.heap (μ ++ [s.heap.objs.size]) (s.heap.push (lstO vs.toArray 0)) := ⟨⟨_, rfl, fun a ha => by rw [List.mem_singleton.mp ha]; exact get_size _⟩, fun a o q _ _ => Heap.get?_push_of_some _ q⟩
  obtain ⟨G', S'⟩ := hG.alloc (lstO vs.toArray 0) (x := .list xs) ⟨vs.toArray, 0, Heap.get?_push_size _ rfl, VRs.mono T _ _ hv⟩
  refine k _ _ _ _ _ s.toks h S' G' ?_
  exact ⟨_, rfl, by rw [hG.len, List.getElem?_append_right (Nat.le_refl _)]; simp⟩

noncomputable abbrev plainEs (es : List Expr) : Prop := ∀ (env : Env) (pos : Pos), backTo pos (starEach es env) = es.map fun e => (false, eval e env)


theorem wp_spliced_len (M : Model) (Γ : Ctx) : ∀ (ts : List (Sem Value)) (Q : List Value → Pos → Shared → Prop) (E : Value → Pos → Shared → Prop) (p : Pos) (s : Shared),
    Sem.wp M Γ (spliced (ts.map fun t => (false, t))) Q E p s → Sem.wp M Γ (spliced (ts.map fun t => (false, t))) (fun vs p' s' => vs.length = ts.length ∧ Q vs p' s') E p s
  | [], Q, E, p, s, h => by
    rw [List.map_nil, spliced] at h ⊢
    exact ⟨rfl, h⟩
  | t :: rest, Q, E, p, s, h => by
    rw [List.map_cons, spliced] at h ⊢
    simp only [Sem.wp_bind', Sem.wp_holding, Sem.wp_pure', Bool.false_eq_true, if_false] at h ⊢
    refine Sem.wp_mono M Γ t (fun v p₁ s₁ h₁ => ?_) (fun _ _ _ e => e) p s h
    exact Sem.wp_mono M Γ _ (fun vs p₃ s₃ h₃ => ⟨by simp [h₃.1], h₃.2⟩) (fun _ _ _ e => e) p₁ s₁ (wp_spliced_len M Γ rest _ E p₁ s₁ h₁)
theorem spliced_len {M : Model} {A : Around} {E : Value → Shared → Prop} {s : Shared} {es : List Expr} {env : Env} {Q : List Value → Shared → Prop} (h : wpAny M A (spliced (es.map fun e => (false, eval e env))) (fun vs s' => vs.length = es.length → Q vs s') E s) :
    wpAny M A (spliced (es.map fun e => (false, eval e env))) Q E s := by
  intro Γ p hΓ
  have e : (es.map fun e => (false, eval e env)) = (es.map fun e => eval e env).map fun t => (false, t) := by rw [List.map_map]; rfl
  have h0 := h Γ p hΓ
  rw [e] at h0 ⊢
  refine Sem.wp_mono M Γ _ (fun vs p' s' h' => ?_) (fun _ _ _ e => e) p s (wp_spliced_len M Γ (es.map fun e => eval e env) _ _ p s h0)
  exact h'.2 (by simpa using h'.1)

noncomputable abbrev tupK (Φ : V → List O → Prop) : List V → List O → Prop := fun xs σ₁ => Φ (.tup xs) σ₁
theorem WpE_tuple {es : List Expr} {k : Nat} {pos : Pos} {Φ : V → List O → Prop} (h : WpEs c n sc m σ es (tupK Φ)) (hl : Nat.ble es.length 1000 = true := by rfl) (hs : plainEs es := by intro _ _; rfl) : WpE c n sc m σ (.Tuple es k pos) Φ := by
  intro A env μ s Q E hR hG hF kk
  refine Tuple_ ?_
  rw [hs env pos]
  refine spliced_len (h A env μ s _ E hR hG hF fun vs xs σ₁ μ₁ h₁ tk₁ hx S₁ G₁ V₁ hl' => ?_)
  have := Nat.le_of_ble_eq_true hl
  exact newTuple_sound G₁ V₁ (by rw [← V₁.length, hl']; unfold sizeLine; (first | lia | omega)) hx fun r v σ' μ' h' tk hΦ S' G' V' => kk r v σ' μ' h' tk hΦ (S₁.trans S') G' V'
/-- a list that nothing will change -/
noncomputable abbrev lstK (Φ : V → List O → Prop) : List V → List O → Prop := fun xs σ₁ => Φ (.lst xs) σ₁
theorem WpE_list {es : List Expr} {pos : Pos} {Φ : V → List O → Prop} (h : WpEs c n sc m σ es (lstK Φ)) (hl : Nat.ble es.length 1000 = true := by rfl) (hs : plainEs es := by intro _ _; rfl) : WpE c n sc m σ (.List es pos) Φ := by
  intro A env μ s Q E hR hG hF kk
  refine List_ ?_
  rw [hs env pos]
  refine spliced_len (h A env μ s _ E hR hG hF fun vs xs σ₁ μ₁ h₁ tk₁ hx S₁ G₁ V₁ hl' => ?_)
  have := Nat.le_of_ble_eq_true hl
  exact newList_sound G₁ V₁ (by rw [← V₁.length, hl']; unfold sizeLine; (first | lia | omega)) hx fun r v σ' μ' h' tk hΦ S' G' V' => kk r v σ' μ' h' tk hΦ (S₁.trans S') G' V'
/-- a list that is tracked -/
noncomputable abbrev lsrK (Φ : V → List O → Prop) : List V → List O → Prop := fun xs σ₁ => Φ (.ref σ₁.length) (σ₁ ++ [.list xs])
theorem WpE_listT {es : List Expr} {pos : Pos} {Φ : V → List O → Prop} (h : WpEs c n sc m σ es (lsrK Φ)) (hl : Nat.ble es.length 1000 = true := by rfl) (hs : plainEs es := by intro _ _; rfl) : WpE c n sc m σ (.List es pos) Φ := by
  intro A env μ s Q E hR hG hF kk
  refine List_ ?_
  rw [hs env pos]
  refine spliced_len (h A env μ s _ E hR hG hF fun vs xs σ₁ μ₁ h₁ tk₁ hx S₁ G₁ V₁ hl' => ?_)
  have := Nat.le_of_ble_eq_true hl
  exact newListT_sound G₁ V₁ (by rw [← V₁.length, hl']; unfold sizeLine; (first | lia | omega)) hx fun r v σ' μ' h' tk hΦ S' G' V' => kk r v σ' μ' h' tk hΦ (S₁.trans S') G' V'
/-- a new dict, tracked -/
theorem WpE_dict0 (ty : Nat) {pos : Pos} {Φ : V → List O → Prop} (h : Φ (.ref σ.length) (σ ++ [if ty = 0 then .idict [] else if ty = 1 then .sdict [] else .tdict []])) : WpE c n sc m σ (.Dict [] [] pos) Φ := by
  intro A env μ s Q E hR hG hF kk
  refine wpAny_Dict_empty ?_
  have T : Keep μ s.heap (μ ++ [s.heap.objs.size]) (s.heap.push (dctO #[] 0)) := ⟨⟨_, rfl, fun a ha => by rw [List.mem_singleton.mp ha]; exact get_size _⟩, fun a o q _ _ => Heap.get?_push_of_some _ q⟩
  have hz : OR c (s.heap.push (dctO #[] 0)) (μ ++ [s.heap.objs.size]) (if ty = 0 then .idict [] else if ty = 1 then .sdict [] else .tdict []) s.heap.objs.size := by
    split
    · exact ⟨[], Heap.DictOf.new _, rfl, VRs.nil⟩
    · split
      · exact ⟨[], Heap.DictOf.new _, rfl, VRs.nil⟩
      · exact ⟨[], #[], 0, Heap.get?_push_size _ rfl, rfl, fun x hx => (nomatch hx), List.nodup_nil, rfl, VRs.nil⟩
  obtain ⟨G', S'⟩ := hG.alloc (dctO #[] 0) hz
  refine kk _ _ _ _ _ s.toks h S' G' ?_
  exact ⟨_, rfl, by rw [hG.len, List.getElem?_append_right (Nat.le_refl _)]; simp⟩
end
end Mine
end

/-! part L6a -/
section
open PySem PySem.W PySem.Calls PyProof.Rows
set_option Elab.async false
set_option autoImplicit false
namespace Mine

/-- pyHash of v gives k and takes d tokens, wherever the heap is h -/
noncomputable def HashTo (c : Cx) (A : Around) (h : Heap) (v : Value) (k : Int) (d : Nat) : Prop :=
  ∀ (s : Shared) (Q : Int → Shared → Prop) (E : Value → Shared → Prop), s.heap = h → Q k { s with toks := s.toks + d } → wpAny (model c.prog c.w) A (pyHash v) Q E s
inductive HashAll (c : Cx) (A : Around) (h : Heap) : List Value → List Int → Nat → Prop
  | nil : HashAll c A h [] [] 0
  | cons {v : Value} {vs : List Value} {k : Int} {ks : List Int} {d e : Nat} : HashTo c A h v k d → HashAll c A h vs ks e → HashAll c A h (v :: vs) (k :: ks) (d + e)

theorem hashTo_tup {c : Cx} {A : Around} {h : Heap} {a : Addr} {items : Array Value} {n : Nat} {ks : List Int} {d : Nat} (hu : A.units < cLine) (ho : h.get? a = some (tupO items n)) (hi : HashAll c A.in1 h items.toList ks d) :
    HashTo c A h (.ref a) (reduceHash (Builtin.Tuple.tupleHashOf ks)) (d + 1) := by
  intro s Q E hs hq
  subst hs
  have hT : s.TypeIs (.ref a) "tuple" := ⟨_, ho, rfl⟩
  unfold pyHash pyHashByItsType
  refine wpAny_bind (wpAny_cRoomFor_or (.inr hu) ?_)
  refine wpAny_bind (wpAny_specialOf hT F.slot_tuple_hash.lookup ?_)
  show wpAny _ _ (if (some (Value.builtin "tuple.__hash__") == some Value.none) = true then _ else _) Q E s
  rw [if_neg (by rw [beq_builtin_none]; exact Bool.false_ne_true)]
  refine wpAny_bind (wpAny_specialOf hT F.slot_tuple_hash.lookup ?_)
  show wpAny _ _ (callSpecialIfBoundUnlessNone? (.ref a) "__hash__" _ >>= _) Q E s
  refine wpAny_bind (wpAny_callSpecialIfBoundUnlessNone?_slot hT F.slot_tuple_hash (wpAny_call_entry F.slot_tuple_hash hT F.entry_tuple_hash ?_ (F.args_tuple_hash_1 _)))
  show wpAny _ _ (Builtin.Tuple.tupleItemsOf (.ref a) >>= _) _ _ s
  refine wpAny_bind (wpAny_tupleItemsOf ho rfl ?_)
  refine wpAny_bind ?_
  rw [← Array.forIn_toList]
  refine wpAny_forIn_list _
    (fun rest (b : Array Int) s' => ∃ left k' e, b.toList ++ left = ks ∧ HashAll c A.in1 s.heap rest left e ∧ k' + e = d ∧ s' = { s with toks := s.toks + k' })
    _ ?_ ?_ _ _ ⟨ks, 0, d, rfl, hi, by (first | lia | omega), rfl⟩
  · rintro x rest b s' ⟨left, k', e, hb, hl, hk, rfl⟩
    cases hl with
    | @cons _ _ k ks' d' e' h1 hl' =>
      refine wpAny_bind (h1 { s with toks := s.toks + k' } _ _ rfl ?_)
      exact wpAny_bind (wpAny_pure (wpAny_pure ⟨ks', k' + d', e', by simp [← hb], hl', by (first | lia | omega), by simp [Nat.add_assoc]⟩))
  · rintro b s' ⟨left, k', e, hb, hl, hk, rfl⟩
    cases hl
    have hk' : k' = d := by (first | lia | omega)
    subst hk'
    have hb' : b.toList = ks := by simpa using hb
    show wpAny _ _ (retInt (Builtin.Tuple.tupleHashOf b.toList)) _ _ _
    rw [hb']
    refine wpAny_ret_mkInt ?_
    show wpAny _ _ (if (decide (-(2 : Int) ^ 63 ≤ Builtin.Tuple.tupleHashOf ks) && decide (Builtin.Tuple.tupleHashOf ks < 2 ^ 63)) = true then _ else _) Q E _
    unfold reduceHash at hq
    by_cases hr : (decide (-(2 : Int) ^ 63 ≤ Builtin.Tuple.tupleHashOf ks) && decide (Builtin.Tuple.tupleHashOf ks < 2 ^ 63)) = true
    · rw [if_pos hr]
      rw [if_pos hr] at hq
      exact wpAny_pure (by simpa [Nat.add_assoc] using hq)
    · rw [if_neg hr]
      rw [if_neg hr] at hq
      exact wpAny_bind (wpAny_rule (wpAny_pure (by simpa [Nat.add_assoc] using hq)))

theorem hashTo_str (c : Cx) (A : Around) (h : Heap) (x : Str) (t : Tok) : HashTo c A h (.str x t) (hashStr c.w x) 1 := fun s Q E _ hq => wpAny_pyHash_str hq
theorem hashTo_int (c : Cx) (A : Around) (h : Heap) (x : Int) (t : Tok) : HashTo c A h (.int x t) (hashInt x) 1 := fun s Q E _ hq => wpAny_pyHash_int hq
theorem hashTo_ints {c : Cx} {A : Around} {h : Heap} {a : Addr} {ks : List Int} (hu : A.units < cLine) (hk : IsTupleKey (intKind c.prog c.w) h ks a) : HashTo c A h (.ref a) (tupleKeyHash (intKind c.prog c.w) ks) (ks.length + 1) :=
  fun s Q E hs hq => wpAny_pyHash_tuple hu (hs ▸ hk) hq

structure TKIs (c : Cx) (h : Heap) (k : TK) (a T C S : Addr) (t1 t2 t3 : Tok) (n1 n2 : Nat) : Prop where
  o : h.get? a = some (tupO #[.str "reif" t1, .ref T] n1)
  i : h.get? T = some (tupO #[.str k.1 t2, .ref C, .ref S, .int k.2.2.2 t3] n2)
  cs : IsTupleKey (intKind c.prog c.w) h k.2.1 C
  ss : IsTupleKey (intKind c.prog c.w) h k.2.2.1 S
  ok : PyData.strOk k.1 = true
noncomputable def isTK (c : Cx) (h : Heap) (k : TK) (a : Addr) : Prop := ∃ T C S t1 t2 t3 n1 n2, TKIs c h k a T C S t1 t2 t3 n1 n2

theorem isTK_hash {c : Cx} {A : Around} {h : Heap} {k : TK} {a : Addr} (hu : A.units + 10 < cLine) (x : isTK c h k a) : HashTo c A h (.ref a) (hashTK c k) (k.2.1.length + k.2.2.1.length + 7) := by
  obtain ⟨T, C, S, t1, t2, t3, n1, n2, X⟩ := x
  have b1 : HashAll c A.in1.in1 h [.str k.1 t2, .ref C, .ref S, .int k.2.2.2 t3] _ _ :=
    .cons (hashTo_str c _ h _ _) (.cons (hashTo_ints (by simp only [Around.in1_units]; (first | lia | omega)) X.cs) (.cons (hashTo_ints (by simp only [Around.in1_units]; (first | lia | omega)) X.ss) (.cons (hashTo_int c _ h _ _) .nil)))
  have b2 := hashTo_tup (A := A.in1) (by simp only [Around.in1_units]; (first | lia | omega)) X.i b1
  have b3 : HashAll c A.in1 h [.str "reif" t1, .ref T] _ _ := .cons (hashTo_str c _ h _ _) (.cons b2 .nil)
  have b4 := hashTo_tup (A := A) (by (first | lia | omega)) X.o b3
  intro s Q E hs hq
  refine b4 s Q E hs ?_
  have e : 1 + (1 + (k.2.1.length + 1 + (k.2.2.1.length + 1 + (1 + 0))) + 1 + 0) + 1 = k.2.1.length + k.2.2.1.length + 7 := by (first | lia | omega)
  rw [e]; exact hq

theorem reads_ints {c : Cx} {h : Heap} {a : Addr} {ks : List Int} (x : IsTupleKey (intKind c.prog c.w) h ks a) : Reads h (.ref a) (.tuple (ks.map PyData.int)) [] := by
  obtain ⟨o, items, n, h1, h2, h3, h4⟩ := x
  refine .tuple h1 h2 h3 ?_
  generalize items.toList = vs at h4
  clear h1 h2 h3
  induction h4 with
  | nil => exact .nil
  | @cons k v ks vs e _ ih =>
    obtain ⟨t, rfl⟩ := Value.isInt_shape e
    exact .cons (as := []) (.int k t) ih
noncomputable def dTK (k : TK) : PyData := .tuple [.str "reif", .tuple [.str k.1, .tuple (k.2.1.map PyData.int), .tuple (k.2.2.1.map PyData.int), .int k.2.2.2]]
theorem isTK_reads {c : Cx} {h : Heap} {k : TK} {a : Addr} (x : isTK c h k a) : Reads h (.ref a) (dTK k) [] := by
  obtain ⟨T, C, S, t1, t2, t3, n1, n2, X⟩ := x
  refine .tuple X.o rfl rfl (.cons (as := []) (.str _ _) (.cons (as := []) (.tuple X.i rfl rfl ?_) .nil))
  exact .cons (as := []) (.str _ _) (.cons (as := []) (reads_ints X.cs) (.cons (as := []) (reads_ints X.ss) (.cons (as := []) (.int _ _) .nil)))
theorem canLay_ints (ks : List Int) : PyData.canLayAll0 (ks.map PyData.int) = true := by
  induction ks with
  | nil => rfl
  | cons k ks ih => simp only [List.map_cons, PyData.canLayAll0, PyData.canLay0, ih, Bool.and_self]
theorem depth_ints (ks : List Int) : PyData.depthAll (ks.map PyData.int) ≤ 0 := by
  induction ks with
  | nil => exact Nat.le_refl _
  | cons k ks ih => simp only [List.map_cons, PyData.depthAll, PyData.depth]; (first | lia | omega)
theorem dTK_lay {k : TK} (h : PyData.strOk k.1 = true) : (dTK k).canLay0 = true ∧ (dTK k).depth ≤ 3 := by
  have hr : PyData.strOk "reif" = true := by decide +kernel
  have d1 := depth_ints k.2.1
  have d2 := depth_ints k.2.2.1
  unfold dTK
  refine ⟨by simp [PyData.canLay0, PyData.canLayAll0, canLay_ints, h, hr], ?_⟩
  simp only [PyData.depth, PyData.depthAll]
  (first | lia | omega)
theorem dTK_eqv (x y : TK) : PyData.eqv (dTK x) (dTK y) = decide (x = y) := by
  obtain ⟨a, b, d, e⟩ := x
  obtain ⟨a', b', d', e'⟩ := y
  unfold dTK
  simp only [PyData.eqv, PyData.eqvAll, ked_eqvAll, Bool.and_true, BEq.rfl, Bool.true_and, Prod.mk.injEq]
  by_cases h1 : a = a' <;> by_cases h2 : b = b' <;> by_cases h3 : d = d' <;> by_cases h4 : e = e' <;> simp [h1, h2, h3, h4]
theorem isTK_inj {c : Cx} {h : Heap} {a : Addr} {x y : TK} (hx : isTK c h x a) (hy : isTK c h y a) : x = y := by
  obtain ⟨T, C, S, t1, t2, t3, n1, n2, X⟩ := hx
  obtain ⟨T', C', S', t1', t2', t3', n1', n2', Y⟩ := hy
  have e1 := X.o.symm.trans Y.o
  simp only [Option.some.injEq, Obj.mk.injEq, Data.seq.injEq] at e1
  have e1' : T = T' := by simpa using e1.2.2.1.1 |> fun q => (by simpa using q : t1 = t1' ∧ T = T').2
  subst e1'
  have e2 := X.i.symm.trans Y.i
  simp only [Option.some.injEq, Obj.mk.injEq, Data.seq.injEq] at e2
  have e3 : (x.1 = y.1 ∧ t2 = t2') ∧ C = C' ∧ S = S' ∧ x.2.2.2 = y.2.2.2 ∧ t3 = t3' := by simpa using e2.2.2.1.1
  obtain ⟨⟨h1, _⟩, h2, h3, h4, _⟩ := e3
  subst h2; subst h3
  have c1 := X.cs.inj Y.cs
  have c2 := X.ss.inj Y.ss
  obtain ⟨a, b, d, e⟩ := x
  obtain ⟨a', b', d', e'⟩ := y
  simp_all
theorem isTK_keeps {c : Cx} {h h' : Heap} {k : TK} {a d : Addr} {o : Obj} {es : Array DictEntry} {ep : Nat} (x : isTK c h k a) (ho : h.get? d = some o) (hd : o.data = .dict es ep) (hs : Heap.SameBut d h h') : isTK c h' k a := by
  obtain ⟨T, C, S, t1, t2, t3, n1, n2, X⟩ := x
  have ne : ∀ (b : Addr) (items : Array Value) (n : Nat), h.get? b = some (tupO items n) → b ≠ d := by
    rintro b items n e rfl
    rw [ho] at e; cases e; cases hd
  exact ⟨T, C, S, t1, t2, t3, n1, n2, (hs.2 _ (ne _ _ _ X.o)).trans X.o, (hs.2 _ (ne _ _ _ X.i)).trans X.i, X.cs.keeps ho hd hs, X.ss.keeps ho hd hs, X.ok⟩
/-- eqIsQuiet of a tuple whose items are quiet -/
noncomputable def QuietTo (c : Cx) (h : Heap) (n : Nat) (v : Value) : Prop := ∀ (A : Around) (s : Shared) (Q : Bool → Shared → Prop) (E : Value → Shared → Prop), s.heap = h → Q true s → wpAny (model c.prog c.w) A (eqIsQuiet n v) Q E s
theorem quiet_flat {c : Cx} {h : Heap} {n : Nat} {v : Value} (e : carriedByValue v = true) : QuietTo c h n v := fun A s Q E _ q => by rw [eqIsQuiet_byValue _ e]; exact wpAny_pure q
theorem quiet_tup {c : Cx} {h : Heap} {n : Nat} {a : Addr} {items : Array Value} {k : Nat} (ho : h.get? a = some (tupO items k)) (hi : ∀ v ∈ items.toList, QuietTo c h n v) : QuietTo c h (n + 1) (.ref a) := by
  intro A s Q E hs q
  subst hs
  have hT : s.TypeIs (.ref a) "tuple" := ⟨_, ho, rfl⟩
  unfold eqIsQuiet
  refine wpAny_bind (wpAny_specialOf hT F.slot_tuple_eq.lookup ?_)
  show wpAny _ _ (isInstance (.ref a) (.type "tuple") >>= _) _ _ s
  refine wpAny_bind (wpAny_isInstance hT isSubtype_tuple_tuple ?_)
  simp only [Bool.not_true, Bool.false_eq_true, if_false]
  refine wpAny_bind (wpAny_seqItems ho rfl ?_)
  refine wpAny_bind ?_
  show wpAny _ _ (forIn items _ _) _ _ s
  rw [← Array.forIn_toList]
  refine wpAny_forIn_list _ (fun rest r s' => r.1 = none ∧ s' = s ∧ ∀ v ∈ rest, QuietTo c s.heap n v) _ ?_ ?_ _ _ ⟨rfl, rfl, hi⟩
  · rintro v rest r s' ⟨hr, rfl, hall⟩
    refine wpAny_bind (hall v List.mem_cons_self _ _ _ _ rfl ?_)
    simp only [Bool.not_true, Bool.false_eq_true, if_false]
    exact wpAny_pure ⟨rfl, rfl, fun u hu' => hall u (List.mem_cons_of_mem _ hu')⟩
  · rintro ⟨r1, r2⟩ s' ⟨hr, rfl, _⟩
    simp only at hr
    subst hr
    exact wpAny_pure q
theorem quiet_ints {c : Cx} {h : Heap} {a : Addr} {ks : List Int} (n : Nat) (x : IsTupleKey (intKind c.prog c.w) h ks a) : QuietTo c h (n + 1) (.ref a) := by
  obtain ⟨o, items, k, h1, h2, h3, h4⟩ := x
  intro A s Q E hs q
  subst hs
  have hT : s.TypeIs (.ref a) "tuple" := ⟨_, h1, h2⟩
  unfold eqIsQuiet
  refine wpAny_bind (wpAny_specialOf hT F.slot_tuple_eq.lookup ?_)
  show wpAny _ _ (isInstance (.ref a) (.type "tuple") >>= _) _ _ s
  refine wpAny_bind (wpAny_isInstance hT isSubtype_tuple_tuple ?_)
  simp only [Bool.not_true, Bool.false_eq_true, if_false]
  refine wpAny_bind (wpAny_seqItems h1 h3 ?_)
  refine wpAny_bind ?_
  show wpAny _ _ (forIn items _ _) _ _ s
  rw [← Array.forIn_toList]
  refine wpAny_forIn_list _ (fun rest r s' => r.1 = none ∧ s' = s ∧ ∀ v ∈ rest, carriedByValue v = true) _ ?_ ?_ _ _ ⟨rfl, rfl, h4.byValue⟩
  · rintro v rest r s' ⟨hr, rfl, hall⟩
    rw [eqIsQuiet_byValue _ (hall v List.mem_cons_self)]
    refine wpAny_bind (wpAny_pure ?_)
    simp only [Bool.not_true, Bool.false_eq_true, if_false]
    exact wpAny_pure ⟨rfl, rfl, fun u hu' => hall u (List.mem_cons_of_mem _ hu')⟩
  · rintro ⟨r1, r2⟩ s' ⟨hr, rfl, _⟩
    simp only at hr
    subst hr
    exact wpAny_pure q
theorem isTK_quiet {c : Cx} {h : Heap} {k : TK} {a : Addr} (x : isTK c h k a) : QuietTo c h 8 (.ref a) := by
  obtain ⟨T, C, S, t1, t2, t3, n1, n2, X⟩ := x
  refine quiet_tup X.o fun v hv => ?_
  simp only [List.mem_cons, List.not_mem_nil, or_false] at hv
  rcases hv with rfl | rfl
  · exact quiet_flat rfl
  · refine quiet_tup X.i fun v hv => ?_
    simp only [List.mem_cons, List.not_mem_nil, or_false] at hv
    rcases hv with rfl | rfl | rfl | rfl
    · exact quiet_flat rfl
    · exact quiet_ints 5 X.cs
    · exact quiet_ints 5 X.ss
    · exact quiet_flat rfl

noncomputable def tkKind (c : Cx) : HeapKind c.prog c.w TK where
  is := isTK c
  hash := hashTK c
  draws := fun k => k.2.1.length + k.2.2.1.length + 7
  room := fun A => A.units + 10 < cLine
  inj := fun hx hy => isTK_inj hx hy
  keeps := fun x ho hd hs => isTK_keeps x ho hd hs
  pyHash := fun hu hk h => isTK_hash hu hk _ _ _ rfl h
  eqBool := fun {A E s x y a b Q} hu hx hy h => by
    have sx : PyData.strOk x.1 = true := let ⟨_, _, _, _, _, _, _, _, X⟩ := hx; X.ok
    have sy : PyData.strOk y.1 = true := let ⟨_, _, _, _, _, _, _, _, X⟩ := hy; X.ok
    have lx := dTK_lay sx
    have ly := dTK_lay sy
    refine SeqAt.eqAt_reads (dTK x) (dTK y) A s (.ref a) (.ref b) _ _ (isTK_reads hx) (isTK_reads hy) lx.1 ly.1 ?_ c.prog c.w E Q (by rw [dTK_eqv]; exact h)
    have := Nat.min_le_left (dTK x).depth (dTK y).depth
    (first | lia | omega)
  quiet := fun hk h => isTK_quiet hk _ _ _ _ rfl h
end Mine
end

/-! part L6 -/
section
open PySem PySem.W PySem.Calls PyProof.Rows
set_option Elab.async false
set_option autoImplicit false
set_option linter.all false
namespace Mine

section
variable {c : Cx} {n : Nat} {sc : Scope} {m : Loc} {σ : List O}

/-- a tracked object is changed -/
theorem HG.modify {μ : List Addr} {h h' : Heap} (G : HG c μ σ h) {i : Nat} {a : Addr} {x x' : O} (hx : σ[i]? = some x) (ha : μ[i]? = some a) (hs : Heap.SameBut a h h') (e : Keep μ h μ h' → OR c h' μ x' a) :
    HG c μ (σ.set i x') h' ∧ Step [] μ h μ h' := by
  have am : a ∈ μ := List.mem_of_getElem? ha
  have K : Keep μ h μ h' := ⟨⟨[], by simp, fun _ h => nomatch h⟩, fun b o q hb _ => (hs.2 b fun z => hb (z ▸ am)).trans q⟩
  have E := e K
  have S : Step [] μ h μ h' := ⟨fun b o q => by
    by_cases z : b = a
    · rw [z]; exact E.alive
    · exact ⟨o, (hs.2 b z).trans q⟩, ⟨[], by simp, fun _ h => nomatch h⟩, fun b o q _ hb => (hs.2 b fun z => hb (z ▸ am)).trans q⟩
  refine ⟨⟨G.ok, fun b o q => (hs.2 b fun z => ?_).trans (G.base b o q), G.new, G.nodup, by simp [G.len], ?_⟩, S⟩
  · have h1 := (G.new a am).1
    rw [← z, q] at h1; cases h1
  · intro j y b h1 h2
    by_cases hj : i = j
    · subst hj
      have hi : i < σ.length := (List.getElem?_eq_some_iff.mp hx).1
      rw [List.getElem?_set_self hi] at h1
      rw [ha] at h2
      cases h1; cases h2
      exact E
    · rw [List.getElem?_set_ne hj] at h1
      refine (G.rel j y b h1 h2).mono K fun o q => (hs.2 b fun z => hj ?_).trans q
      subst z
      exact (List.getElem?_inj (List.getElem?_eq_some_iff.mp ha).1 G.nodup).mp (ha.trans h2.symm)

theorem getK_real {α : Type} [DecidableEq α] {h : Heap} {μ : List Addr} : ∀ {es : List (α × V)} {kvs : List (α × Value)} {k : α}, kvs.map (·.1) = es.map (·.1) → VRs h μ (es.map (·.2)) (kvs.map (·.2)) →
    (∀ v, getK es k = some v → ∃ r, valueAt kvs k = some r ∧ VR h μ v r) ∧ (getK es k = none → valueAt kvs k = none)
  | [], [], k, _, _ => ⟨fun v h => by simp [getK] at h, fun _ => rfl⟩
  | [], _ :: _, k, e, _ => by simp at e
  | _ :: _, [], k, e, _ => by simp at e
  | (x, v) :: es, (y, r) :: kvs, k, e, e2 => by
    simp only [List.map_cons, List.cons.injEq] at e
    obtain ⟨rfl, e⟩ := e
    simp only [List.map_cons] at e2
    obtain ⟨r', ws, e3, e4, e5⟩ := VRs.uncons e2
    simp only [List.cons.injEq] at e3
    obtain ⟨rfl, rfl⟩ := e3
    have ih := getK_real (k := k) e e5
    by_cases hk : y = k
    · subst hk
      refine ⟨fun v' hv => ?_, fun hn => ?_⟩
      · simp [getK] at hv; subst hv; exact ⟨r, by simp [valueAt], e4⟩
      · simp [getK] at hn
    · refine ⟨fun v' hv => ?_, fun hn => ?_⟩
      · have : getK es k = some v' := by simpa [getK, hk] using hv
        obtain ⟨r', h1, h2⟩ := ih.1 v' this
        exact ⟨r', by simpa [valueAt, hk] using h1, h2⟩
      · have : getK es k = none := by simpa [getK, hk] using hn
        simpa [valueAt, hk] using ih.2 this

theorem VR.ints {h : Heap} {μ : List Addr} : ∀ {ks : List Int} {vs : List Value} (cx : Cx), VRs h μ (ks.map V.int) vs → ItemsAre (intKind cx.prog cx.w) ks vs
  | [], _, _, e => by rw [VRs.nil_inv e]; exact .nil
  | k :: ks, _, cx, e => by
    obtain ⟨v, ws, rfl, e1, e2⟩ := VRs.uncons e
    obtain ⟨t, rfl⟩ := e1.int_inv
    exact .cons (intKind_is _ _ _ _) (VR.ints cx e2)
theorem vr_isTK {h : Heap} {μ : List Addr} {k : TK} {a : Addr} (e : VR h μ (keyV k) (.ref a)) (ok : PyData.strOk k.1 = true) : isTK c h k a := by
  unfold keyV at e
  obtain ⟨a', items, n1, h0, _, h1, e1⟩ := e.tup_inv
  cases h0
  obtain ⟨v1, w1, q1, e2, e3⟩ := VRs.uncons e1
  obtain ⟨t1, rfl⟩ := e2.str_inv
  obtain ⟨v2, w2, rfl, e4, e5⟩ := VRs.uncons e3
  rw [VRs.nil_inv e5] at q1
  obtain ⟨T, items2, n2, rfl, _, h2, e6⟩ := e4.tup_inv
  obtain ⟨v3, w3, q3, e7, e8⟩ := VRs.uncons e6
  obtain ⟨t2, rfl⟩ := e7.str_inv
  obtain ⟨v4, w4, rfl, e9, e10⟩ := VRs.uncons e8
  obtain ⟨C, i3, n3, rfl, _, h3, e11⟩ := e9.tup_inv
  obtain ⟨v5, w5, rfl, e12, e13⟩ := VRs.uncons e10
  obtain ⟨S, i4, n4, rfl, _, h4, e14⟩ := e12.tup_inv
  obtain ⟨v6, w6, rfl, e15, e16⟩ := VRs.uncons e13
  obtain ⟨t3, rfl⟩ := e15.int_inv
  rw [VRs.nil_inv e16] at q3
  have g1 : items = #[.str "reif" t1, .ref T] := by rw [← Array.toList_inj]; simpa using q1
  have g2 : items2 = #[.str k.1 t2, .ref C, .ref S, .int k.2.2.2 t3] := by rw [← Array.toList_inj]; simpa using q3
  subst g1; subst g2
  exact ⟨T, C, S, t1, t2, t3, n1, n2, h1, h2, ⟨_, i3, n3, h3, rfl, rfl, VR.ints c e11⟩, ⟨_, i4, n4, h4, rfl, rfl, VR.ints c e14⟩, ok⟩
theorem OR.dictH {h : Heap} {μ : List Addr} {es : List (TK × V)} {a : Addr} (e : OR c h μ (.tdict es) a) : ∃ xs, h.DictOfH (tkKind c) a xs ∧ xs.map (·.1) = es.map (·.1) ∧ VRs h μ (es.map (·.2)) (xs.map (·.2.2)) ∧
    (∀ x ∈ xs, VR h μ (keyV x.1) (.ref x.2.1) ∧ PyData.strOk x.1.1 = true) := by
  obtain ⟨xs, ds, ep, h1, h2, h3, h4, h5, h6⟩ := e
  exact ⟨xs, ⟨_, ds, ep, h1, ⟨rfl, rfl, rfl⟩, rfl, h2, fun x hx => vr_isTK (h3 x hx).1 (h3 x hx).2, h4⟩, h5, h6, h3⟩

theorem atKey_real {h : Heap} {μ : List Addr} : ∀ {es : List (TK × V)} {xs : List (TK × Addr × Value)} {k : TK}, xs.map (·.1) = es.map (·.1) → VRs h μ (es.map (·.2)) (xs.map (·.2.2)) →
    (∀ v, getK es k = some v → ∃ p, atKey xs k = some p ∧ VR h μ v p.2) ∧ (getK es k = none → atKey xs k = none)
  | [], [], k, _, _ => ⟨fun v h => by simp [getK] at h, fun _ => rfl⟩
  | [], _ :: _, k, e, _ => by simp at e
  | _ :: _, [], k, e, _ => by simp at e
  | (x, v) :: es, (y, r) :: kvs, k, e, e2 => by
    simp only [List.map_cons, List.cons.injEq] at e
    obtain ⟨rfl, e⟩ := e
    simp only [List.map_cons] at e2
    obtain ⟨r', ws, e3, e4, e5⟩ := VRs.uncons e2
    simp only [List.cons.injEq] at e3
    obtain ⟨rfl, rfl⟩ := e3
    have ih := atKey_real (k := k) e e5
    by_cases hk : y = k
    · subst hk
      refine ⟨fun v' hv => ?_, fun hn => ?_⟩
      · simp [getK] at hv; subst hv; exact ⟨r, by simp [atKey], e4⟩
      · simp [getK] at hn
    · refine ⟨fun v' hv => ?_, fun hn => ?_⟩
      · have : getK es k = some v' := by simpa [getK, hk] using hv
        obtain ⟨r', h1, h2⟩ := ih.1 v' this
        exact ⟨r', by simpa [atKey, hk] using h1, h2⟩
      · have : getK es k = none := by simpa [getK, hk] using hn
        simpa [atKey, hk] using ih.2 this

noncomputable def SubI (o : Option O) (j : Int) (k : V → Prop) : Prop := match o with
  | some x => (match x with
    | .list xs => (0 ≤ j ∧ j < 2 ^ 63) ∧ ∃ v, pyIdx xs j = some v ∧ k v
    | .idict es => ∃ v, getK es j = some v ∧ k v
    | _ => False)
  | none => False
theorem SubI.inv {o : Option O} {j : Int} {k : V → Prop} (h : SubI o j k) : (∃ xs, o = some (.list xs) ∧ (0 ≤ j ∧ j < 2 ^ 63) ∧ ∃ v, pyIdx xs j = some v ∧ k v) ∨ (∃ es, o = some (.idict es) ∧ ∃ v, getK es j = some v ∧ k v) := by
  cases o with
  | none => exact h.elim
  | some x => cases x with
    | list xs => exact .inl ⟨xs, rfl, h⟩
    | idict es => exact .inr ⟨es, rfl, h⟩
    | _ => exact h.elim
/-- a dict of strings, of keys -/
noncomputable def SdO (o : Option O) (K : List (Str × V) → Prop) : Prop := match o with
  | some x => (match x with | .sdict es => K es | _ => False)
  | none => False
theorem SdO.inv {o : Option O} {K : List (Str × V) → Prop} (h : SdO o K) : ∃ es, o = some (.sdict es) ∧ K es := by
  cases o with
  | none => exact h.elim
  | some x => cases x with
    | sdict es => exact ⟨es, rfl, h⟩
    | _ => exact h.elim
noncomputable def TdO (o : Option O) (K : List (TK × V) → Prop) : Prop := match o with
  | some x => (match x with | .tdict es => K es | _ => False)
  | none => False
theorem TdO.inv {o : Option O} {K : List (TK × V) → Prop} (h : TdO o K) : ∃ es, o = some (.tdict es) ∧ K es := by
  cases o with
  | none => exact h.elim
  | some x => cases x with
    | tdict es => exact ⟨es, rfl, h⟩
    | _ => exact h.elim
/-- an item -/
noncomputable def SubOk (σ : List O) (a i : V) (k : V → Prop) : Prop :=
  match a with
  | .tup xs => (match i with | .int j => (-(2 ^ 63) ≤ j ∧ j < 2 ^ 63) ∧ ∃ v, pyIdx xs j = some v ∧ k v | _ => False)
  | .lst xs => (match i with | .int j => (0 ≤ j ∧ j < 2 ^ 63) ∧ ∃ v, pyIdx xs j = some v ∧ k v | _ => False)
  | .ref r => (match i with
    | .int j => SubI (σ[r]?) j k
    | .str x => SdO (σ[r]?) fun es => ∃ v, getK es x = some v ∧ k v
    | .tup xs => TdO (σ[r]?) fun es => ∃ key v, V.tup xs = keyV key ∧ PyData.strOk key.1 = true ∧ getK es key = some v ∧ k v
    | _ => False)
  | _ => False

theorem sub_sound {A : Around} {value slice : Expr} {a i : V} {ra ri : Value} {μ : List Addr} {s : Shared} {Φ : V → List O → Prop} {Q : Value → Shared → Prop} {E : Value → Shared → Prop}
    (hR : Room n A) (hG : HG c μ σ s.heap) (ha : VR s.heap μ a ra) (hi : VR s.heap μ i ri) (h : SubOk σ a i fun v => Φ v σ) (k : Kont c μ s Φ Q)
    (hs : ∀ o j, subscripted slice false o j = operate [o, j] (getItem o j)) :
    wpAny (model c.prog c.w) A (subscriptTail value slice ra ri) Q E s := by
  have hu : (tkKind c).room A.in1 := by show A.in1.units + 10 < cLine; have := hR.units; simp only [Around.in1_units]; unfold cLine; (first | lia | omega)
  have lst : ∀ {b : Addr} {items : Array Value} {q : Nat} {xs : List V} {j : Int} {t : Tok}, s.heap.get? b = some (lstO items q) → VRs s.heap μ xs items.toList → (0 ≤ j ∧ j < 2 ^ 63) → (∃ v, pyIdx xs j = some v ∧ Φ v σ) →
      wpAny (model c.prog c.w) A (subscriptTail value slice (.ref b) (.int j t)) Q E s := by
    intro b items q xs j t h1 h2 h3 h4
    obtain ⟨v, h5, h6⟩ := h4
    obtain ⟨x, r, g1, g2, g3⟩ := pyIdx_real h2 h5
    have g4 : x = j.toNat := by
      rw [seqIndex_of h3.1 (by
        unfold pyIdx at h5
        rw [if_pos h3.1] at h5
        have := (List.getElem?_eq_some_iff.mp h5).1
        have hl := h2.length
        simp only [Array.length_toList] at hl
        (first | lia | omega))] at g1
      exact (Option.some.inj g1).symm
    subst g4
    exact subscriptTail_builtinR (x := r) ⟨_, h1, rfl⟩ slot_list_getitem.lookup (wpAny_getItem_list (isList_of h1) h3.1 h3.2 g2 ⟨rfl, k.here hG h6 g3⟩) (hs _ _)
  cases a with
  | tup xs => cases i with
    | int j =>
      obtain ⟨⟨h1, h2⟩, v, h3, h4⟩ := h
      obtain ⟨b, items, q, rfl, _, g1, g2⟩ := ha.tup_inv
      obtain ⟨t, rfl⟩ := hi.int_inv
      obtain ⟨x, r, g3, g4, g5⟩ := pyIdx_real g2 h3
      exact subscriptTail_builtinR (x := r) ⟨_, g1, rfl⟩ slot_tuple_getitem.lookup (getItem_tuple (isTuple_of g1) h1 h2 g3 g4 ⟨rfl, k.here hG h4 g5⟩) (hs _ _)
    | _ => exact h.elim
  | lst xs => cases i with
    | int j =>
      obtain ⟨h1, h2⟩ := h
      obtain ⟨b, items, q, rfl, _, g1, g2⟩ := ha.lst_inv
      obtain ⟨t, rfl⟩ := hi.int_inv
      exact lst g1 g2 h1 h2
    | _ => exact h.elim
  | ref r =>
    obtain ⟨b, rfl, hb⟩ := ha.ref_inv
    cases i with
    | int j =>
      obtain ⟨t, rfl⟩ := hi.int_inv
      rcases SubI.inv h with ⟨xs, he, h⟩ | ⟨es, he, v, h1, h2⟩
      · obtain ⟨items, q, g1, g2⟩ := hG.rel _ _ _ he hb
        exact lst g1 g2 h.1 h.2
      · obtain ⟨kvs, g1, g2, g3⟩ := hG.rel _ _ _ he hb
        obtain ⟨r, g4, g5⟩ := (getK_real g2 g3).1 v h1
        exact subscriptTail_builtinR (x := r) g1.typeIs PySem.F.slot_dict_getitem.lookup (wpAny_getItem_of (intKind_is _ _ _ _) g1.mapOf g4 ⟨rfl, k.same hG h2 g5⟩) (hs _ _)
    | str x =>
      obtain ⟨t, rfl⟩ := hi.str_inv
      obtain ⟨es, he, v, h1, h2⟩ := SdO.inv h
      obtain ⟨kvs, g1, g2, g3⟩ := hG.rel _ _ _ he hb
      obtain ⟨r, g4, g5⟩ := (getK_real g2 g3).1 v h1
      exact subscriptTail_builtinR (x := r) g1.typeIs PySem.F.slot_dict_getitem.lookup (wpAny_getItem_of (strKind_is _ _ _ _) g1.mapOf g4 ⟨rfl, k.same hG h2 g5⟩) (hs _ _)
    | tup xs =>
      obtain ⟨es, he, key, v, h1, h2, h3, h4⟩ := TdO.inv h
      rw [h1] at hi
      obtain ⟨ys, g1, g2, g3, _⟩ := OR.dictH (hG.rel _ _ _ he hb)
      obtain ⟨p, g4, g5⟩ := (atKey_real g2 g3).1 v h3
      obtain ⟨ka, _, _, rfl, _⟩ := VR.tup_inv hi
      exact subscriptTail_builtinR (x := p.2) g1.typeIs PySem.F.slot_dict_getitem.lookup (wpAny_getItem_heap (knd := tkKind c) hu (vr_isTK hi h2) g1 g4 ⟨rfl, k.same hG h4 g5⟩) (hs _ _)
    | _ => exact h.elim
  | _ => exact h.elim

noncomputable abbrev subR (Φ : V → List O → Prop) (a : V) : V → List O → Prop := fun i σ₂ => SubOk σ₂ a i fun v => Φ v σ₂
noncomputable abbrev subE (c : Cx) (n : Nat) (sc : Scope) (m : Loc) (slice : Expr) (Φ : V → List O → Prop) : V → List O → Prop := fun a σ₁ => WpE c n sc m σ₁ slice (subR Φ a)
theorem WpE_sub {value slice : Expr} {pos : Pos} {Φ : V → List O → Prop} (h : WpE c n sc m σ value (subE c n sc m slice Φ))
    (hs : ∀ o j, subscripted slice false o j = operate [o, j] (getItem o j) := by intro _ _; rfl) : WpE c n sc m σ (.Subscript value slice pos) Φ := by
  intro A env μ s Q E hR hG hF kk
  refine Subscript_ (two hR hG hF h fun a b σ₁ σ₂ ra rb μ' h' tk hb S G va vb F => ?_)
  exact sub_sound hR G va vb hb (fun r v σ' μ'' h'' tk' hΦ S' G' V' => kk r v σ' μ'' h'' tk' hΦ (S.trans S') G' V') hs

/-- an attribute of an object of a class -/
structure AttrK (c : Cx) (C : Addr) (name : Str) : Prop where
  pg : plainGet c.K C name = true
  hd : hasDictIn c.K C = true
  at_ : ∃ attr, findIn c.K (.ref C) name = some attr ∧ noGet c.K attr = true

theorem find_congr {α : Type} {p q : α → Bool} : ∀ {l : List α}, (∀ e ∈ l, p e = q e) → l.find? p = l.find? q
  | [], _ => rfl
  | x :: l, h => by
    simp only [List.find?_cons, h x (.head _)]
    rw [find_congr fun e he => h e (.tail _ he)]
theorem getL_of {prog : Program} {w : World} {h : Heap} {d : Addr} {kvs : List (Str × Value)} (x : h.DictOf (strKind prog w) d kvs) : ∃ es ep, h.get? d = some (dictOf es ep) ∧ ∀ k, getL k es = some (valueAt kvs k) := by
  obtain ⟨o, es, ep, h1, ⟨h2, h3, h4⟩, h5, h6, h7, h8⟩ := x
  obtain ⟨oc, od, oda, osl⟩ := o
  simp only at h2 h3 h4 h5
  subst h2; subst h3; subst h4; subst h5
  refine ⟨es.toList, ep, by rw [h1], fun k => ?_⟩
  have hs : ∀ e ∈ es.toList, ∃ n t, e.key = .str n t := fun e he => by
    obtain ⟨q, hq, _⟩ := h6 e (by simpa using he)
    obtain ⟨t, ht⟩ := Value.isStrOf_shape hq
    exact ⟨q, t, ht⟩
  have hf := h7.find k
  have e1 : es.toList.find? (fun e => e.key.isStr k) = es.toList.find? (fun e => (strKind prog w).is k e.key) := by
    refine find_congr fun e he => ?_
    obtain ⟨nn, t, ht⟩ := hs e he
    rw [ht]; rfl
  unfold getL
  rw [e1]
  cases q : es.toList.find? (fun e => (strKind prog w).is k e.key) with
  | some e => rw [q] at hf; simp at hf; rw [← hf]
  | none =>
    rw [q] at hf; simp at hf
    rw [← hf]
    simp only
    rw [if_neg]
    simp only [List.any_eq_true, not_exists, not_and, Bool.not_eq_true]
    intro e he
    obtain ⟨nn, t, ht⟩ := hs e he
    unfold DictEntry.refKey
    rw [ht]

theorem WpE_attr {C : Addr} {value : Expr} {name : Str} {pos : Pos} {Φ : V → List O → Prop} (hk : AttrK c C name)
    (h : WpE c n sc m σ value fun a σ₁ => ∃ i es v, a = .inst C i ∧ σ₁[i]? = some (.sdict es) ∧ getK es name = some v ∧ Φ v σ₁)
    (hb : ∀ env, eval (.Attribute value name pos) env = (do
      let o ← eval value env
      standAt pos.atName
      let r ← holding [o] (getAttr o name true)
      letTemporaryGo value o r
      pure r) := by intro _; rfl) : WpE c n sc m σ (.Attribute value name pos) Φ := by
  intro A env μ s Q E hR hG hF kk
  refine Attribute_any_ (h A env μ s _ E hR hG hF fun r a σ₁ μ₁ h₁ tk₁ ha S₁ G₁ V₁ => ?_) (hb env)
  obtain ⟨i, es, v, rfl, h2, h3, h4⟩ := ha
  obtain ⟨x, d, rfl, _, g1, g2⟩ := V₁.inst_inv
  obtain ⟨kvs, g3, g4, g5⟩ := G₁.rel _ _ _ h2 g2
  obtain ⟨rv, g6, g7⟩ := (getK_real g4 g5).1 v h3
  obtain ⟨ds, ep, g8, g9⟩ := getL_of g3
  obtain ⟨attr, a1, a2⟩ := hk.at_
  have hh : handedIn rv = true := by
    cases v with
    | none => rw [g7.none_inv]; rfl
    | bool b => rw [g7.bool_inv]; rfl
    | int i => obtain ⟨t, rfl⟩ := g7.int_inv; rfl
    | str i => obtain ⟨t, rfl⟩ := g7.str_inv; rfl
    | tup i => obtain ⟨_, _, _, rfl, _⟩ := g7.tup_inv; rfl
    | lst i => obtain ⟨_, _, _, rfl, _⟩ := g7.lst_inv; rfl
    | ref i => obtain ⟨_, rfl, _⟩ := g7.ref_inv; rfl
    | inst _ _ => obtain ⟨_, _, rfl, _⟩ := g7.inst_inv; rfl
    | rng _ _ => obtain ⟨_, _, _, _, rfl, _⟩ := g7.rng_inv; rfl
  have I : InstAt h₁ x (instObj C d) C (some (dictOf ds ep)) := ⟨g1, rfl, rfl, g8⟩
  exact get_value (s := { s with heap := h₁, toks := tk₁ }) G₁.kin I (plainGet_of hk.pg).1 (findObj_own hk.hd a1 a2 (by show getL name ds = _; rw [g9, g6])) hh
    (kk rv v σ₁ μ₁ h₁ _ h4 S₁ G₁ g7)
end
end Mine
end

/-! part L7 -/
section
open PySem PySem.W PySem.Calls PyProof.Rows
set_option Elab.async false
set_option autoImplicit false
set_option linter.all false
namespace Mine

inductive Fl where
  | next | brk | cont
  | ret (v : V)
noncomputable def FlR (h : Heap) (μ : List Addr) : Fl → Flow → Prop
  | .next, f => f = .next
  | .brk, f => f = .brk
  | .cont, f => f = .cont
  | .ret v, f => ∃ r, f = .ret r ∧ VR h μ v r

noncomputable def upd (m : Loc) (x : Str) (v : V) : Loc := fun y => if y = x then some v else m y

/-- weakest preconditions of statements -/
noncomputable def WpQ (c : Cx) (n : Nat) (sc : Scope) (m : Loc) (σ : List O) (t : Env → Sem Flow) (Φ : Fl → Loc → List O → Prop) : Prop :=
  ∀ (A : Around) (env : Env) (μ : List Addr) (s : Shared) (Q : Flow → Shared → Prop) (E : Value → Shared → Prop),
    Room n A → HG c μ σ s.heap → FG c sc env m μ s.heap →
    (∀ r fl m' σ' μ' h' tk, Φ fl m' σ' → Step (Wof env) μ s.heap μ' h' → HG c μ' σ' h' → FG c sc env m' μ' h' → FlR h' μ' fl r → Q r { s with heap := h', toks := tk }) →
    wpAny (model c.prog c.w) A (t env) Q E s
noncomputable abbrev WpX (c : Cx) (n : Nat) (sc : Scope) (m : Loc) (σ : List O) (st : Stmt) (Φ : Fl → Loc → List O → Prop) : Prop := WpQ c n sc m σ (exec st) Φ
noncomputable abbrev WpS (c : Cx) (n : Nat) (sc : Scope) (m : Loc) (σ : List O) (ss : List Stmt) (Φ : Fl → Loc → List O → Prop) : Prop := WpQ c n sc m σ (execs ss) Φ

section
variable {c : Cx} {n : Nat} {sc : Scope} {m : Loc} {σ : List O}

theorem WpQ.mono {t : Env → Sem Flow} {Φ Ψ : Fl → Loc → List O → Prop} (h : WpQ c n sc m σ t Φ) (hi : ∀ fl m' σ', Φ fl m' σ' → Ψ fl m' σ') : WpQ c n sc m σ t Ψ :=
  fun A env μ s Q E hR hG hF k => h A env μ s Q E hR hG hF fun r fl m' σ' μ' h' tk hΦ => k r fl m' σ' μ' h' tk (hi fl m' σ' hΦ)

theorem WpS_nil {Φ : Fl → Loc → List O → Prop} (h : Φ .next m σ) : WpS c n sc m σ [] Φ := by
  intro A env μ s Q E hR hG hF kk
  exact wpAny_execs_nil (kk .next .next m σ μ s.heap s.toks h (Step.refl _ _ _) hG hF rfl)
noncomputable abbrev thenS (c : Cx) (n : Nat) (sc : Scope) (ss : List Stmt) (Φ : Fl → Loc → List O → Prop) : Fl → Loc → List O → Prop := fun fl m' σ' => match fl with | .next => WpS c n sc m' σ' ss Φ | fl => Φ fl m' σ'
noncomputable abbrev retS (Φ : V → List O → Prop) : Fl → Loc → List O → Prop := fun fl _ σ' => match fl with | .ret v => Φ v σ' | _ => Φ .none σ'
noncomputable abbrev ifS (c : Cx) (n : Nat) (sc : Scope) (m : Loc) (body orelse : List Stmt) (Φ : Fl → Loc → List O → Prop) : Bool → List O → Prop := fun b σ₁ => if b then WpS c n sc m σ₁ body Φ else WpS c n sc m σ₁ orelse Φ
theorem gen3 {α β γ : Type} {P : (α → β → γ → Prop) → Prop} {Φ : α → β → γ → Prop} (h : ∀ Ψ : α → β → γ → Prop, (∀ a b d, Φ a b d → Ψ a b d) → P Ψ) : P Φ := h Φ fun _ _ _ x => x
theorem WpS_cons {st : Stmt} {ss : List Stmt} {Φ : Fl → Loc → List O → Prop} (h : WpX c n sc m σ st (thenS c n sc ss Φ)) : WpS c n sc m σ (st :: ss) Φ := by
  intro A env μ s Q E hR hG hF kk
  refine wpAny_execs_cons (h A env μ s _ E hR hG hF fun r fl m' σ' μ' h' tk hf S G F V => ?_)
  cases fl with
  | next =>
    cases V
    exact hf A env μ' _ Q E hR G F fun r fl m'' σ'' μ'' h'' tk'' hf' S' G' F' V' => kk r fl m'' σ'' μ'' h'' tk'' hf' (S.trans S') G' F' V'
  | brk => cases V; exact kk _ .brk m' σ' μ' h' tk hf S G F rfl
  | cont => cases V; exact kk _ .cont m' σ' μ' h' tk hf S G F rfl
  | ret v => obtain ⟨r', rfl, hr⟩ := V; exact kk _ (.ret v) m' σ' μ' h' tk hf S G F ⟨r', rfl, hr⟩
theorem WpX_pass {pos : Pos} {Φ : Fl → Loc → List O → Prop} (h : Φ .next m σ) : WpX c n sc m σ (.Pass pos) Φ := by
  intro A env μ s Q E hR hG hF kk
  exact wpAny_Pass (kk .next .next m σ μ s.heap s.toks h (Step.refl _ _ _) hG hF rfl)
noncomputable abbrev retX (m : Loc) (Φ : Fl → Loc → List O → Prop) : V → List O → Prop := fun v σ' => Φ (.ret v) m σ'
theorem WpX_return {e : Expr} {pos : Pos} {Φ : Fl → Loc → List O → Prop} (h : WpE c n sc m σ e (retX m Φ)) : WpX c n sc m σ (.Return (some e) pos) Φ := by
  intro A env μ s Q E hR hG hF kk
  refine wpAny_Return_some (h A env μ s _ E hR hG hF fun r v σ' μ' h' tk hv S G V => ?_)
  exact kk _ (.ret v) m σ' μ' h' tk hv S.widen G (hF.step S) ⟨r, rfl, V⟩
theorem WpX_return0 {pos : Pos} {Φ : Fl → Loc → List O → Prop} (h : Φ (.ret .none) m σ) : WpX c n sc m σ (.Return none pos) Φ := by
  intro A env μ s Q E hR hG hF kk
  exact wpAny_Return_none (kk _ (.ret .none) m σ μ s.heap s.toks h (Step.refl _ _ _) hG hF ⟨.none, rfl, VR.nil⟩)
theorem WpX_if {test : Expr} {body orelse : List Stmt} {pos : Pos} {Φ : Fl → Loc → List O → Prop} (h : WpT c n sc m σ test (ifS c n sc m body orelse Φ)) : WpX c n sc m σ (.If test body orelse pos) Φ := by
  intro A env μ s Q E hR hG hF kk
  refine wpAny_If (h A env μ s _ E hR hG hF fun r b σ' μ' h' tk hb S G V => ?_)
  subst V
  cases b <;> exact hb A env μ' _ Q E hR G (hF.step S) fun r fl m'' σ'' μ'' h'' tk'' hf' S' G' F' V' => kk r fl m'' σ'' μ'' h'' tk'' hf' (S.widen.trans S') G' F' V'
/-- a statement that is an expression; its value is no object -/
theorem WpX_expr {e : Expr} {pos : Pos} {Φ : Fl → Loc → List O → Prop} (h : WpE c n sc m σ e fun v σ' => (match v with | .none => True | .bool _ => True | .int _ => True | _ => False) ∧ Φ .next m σ')
    (hi : ∀ env : Env, env.scope = sc → interactive env = false := by intro env h; simp only [interactive, h]; decide +kernel) (hs : ∀ env, swapsWith e none pos.line env = pure false := by intro _; rfl) : WpX c n sc m σ (.Expr e pos) Φ := by
  intro A env μ s Q E hR hG hF kk
  refine wpAny_Expr (h A env μ s _ E hR hG hF fun r v σ' μ' h' tk hv S G V => ?_) (hi env hF.scope) (hs env)
  have fin := kk .next .next m σ' μ' h' tk hv.2 S.widen G (hF.step S) rfl
  cases v with
  | none => rw [V.none_inv]; exact fin
  | bool b => rw [V.bool_inv]; exact fin
  | int i => obtain ⟨t, rfl⟩ := V.int_inv; exact fin
  | _ => exact hv.1.elim

/-- storing a name -/
theorem FG.setLocal {env : Env} {μ : List Addr} {h h' : Heap} (F : FG c sc env m μ h) (hG : HG c μ σ h) {x : Str} {v : V} {r : Value} (hr : VR h μ v r) {mr : Str → Option Value} (hm : ∀ x v, sc.names.lookup x = some .local → m x = some v → ∃ r, mr x = some r ∧ VR h μ v r) (hn : h'.Ns env.locals fun y => if y = x then some r else mr y) (hs : Heap.SameBut env.locals h h') (hl : sc.names.lookup x = some .local) :
    Step (Wof env) μ h μ h' ∧ HG c μ σ h' ∧ FG c sc env (upd m x v) μ h' := by
  have lst : ∃ oL, h.get? env.locals = some oL ∧ isStore oL := by
    obtain ⟨mr', ⟨o', es, ep, h1, h2, _⟩, _⟩ := F.ns
    exact ⟨o', h1, .inl ⟨_, _, h2⟩⟩
  have S : Step (Wof env) μ h μ h' := ⟨fun a o e => by
    by_cases z : a = env.locals
    · obtain ⟨o', _, _, h1, _⟩ := hn; rw [z]; exact ⟨o', h1⟩
    · exact ⟨o, (hs.2 a z).trans e⟩, ⟨[], by simp, fun _ h => nomatch h⟩, fun a o e hw _ => (hs.2 a fun z => hw (z ▸ List.mem_cons_self)).trans e⟩
  have K : Keep μ h μ h' := S.keeps F.store
  have nc : ∀ p ∈ env.cells, p.2 ≠ env.locals := by
    intro p hp z
    obtain ⟨_, _, ov, o, h1, h2⟩ := F.cell p hp
    obtain ⟨mr', ⟨o', es, ep, h3, h4, _⟩, _⟩ := F.ns
    rw [z, h3] at h1; cases h1; rw [h4] at h2; cases h2
  refine ⟨S, ⟨hG.ok, fun a o e => (hs.2 a fun z => ?_).trans (hG.base a o e), hG.new, hG.nodup, hG.len, fun i y a e1 e2 => (hG.rel i y a e1 e2).mono K fun o e => (hs.2 a fun z => ?_).trans e⟩, ?_⟩
  · have := F.new; rw [← z, e] at this; cases this
  · exact F.off (z ▸ List.mem_of_getElem? e2)
  · refine ⟨F.scope, F.kind, F.glob, F.blt, F.new, F.off, ⟨_, hn, fun y w hy hm' => ?_⟩, fun p hp => ?_, F.apart, fun y hy => ?_⟩
    · unfold upd at hm'
      by_cases e : y = x
      · rw [if_pos e] at hm'; cases hm'
        exact ⟨r, by rw [if_pos e], VR.mono K _ _ hr⟩
      · rw [if_neg e] at hm'
        obtain ⟨r', h1, h2⟩ := hm y w hy hm'
        exact ⟨r', by rw [if_neg e]; exact h1, VR.mono K _ _ h2⟩
    · obtain ⟨h1, h2, ov, h3⟩ := F.cell p hp
      exact ⟨h1, h2, ov, h3.sameBut hs (nc p hp)⟩
    · obtain ⟨k, h1, h2⟩ := F.cls y hy
      refine ⟨k, h1, fun w hw => ?_⟩
      have e : y ≠ x := by rintro rfl; rw [hl] at hy; rcases hy with hy | hy <;> cases hy
      unfold upd at hw
      rw [if_neg e] at hw
      obtain ⟨r', h3, h4⟩ := h2 w hw
      exact ⟨r', h3.sameBut hs (nc _ (mem_of_lookup h1)), VR.mono K _ _ h4⟩
theorem FG.setCell {env : Env} {μ : List Addr} {h h' : Heap} (F : FG c sc env m μ h) (hG : HG c μ σ h) {x : Str} {k : Addr} {v : V} {r : Value} (hr : VR h μ v r) (hk : env.cells.lookup x = some k) (hn : h'.IsCell k (some r)) (hs : Heap.SameBut k h h') (hl : sc.names.lookup x = some .cell) :
    Step (Wof env) μ h μ h' ∧ HG c μ σ h' ∧ FG c sc env (upd m x v) μ h' := by
  have km : (x, k) ∈ env.cells := mem_of_lookup hk
  have S : Step (Wof env) μ h μ h' := ⟨fun a o e => by
    by_cases z : a = k
    · obtain ⟨o', h1, _⟩ := hn; rw [z]; exact ⟨o', h1⟩
    · exact ⟨o, (hs.2 a z).trans e⟩, ⟨[], by simp, fun _ h => nomatch h⟩, fun a o e hw _ => (hs.2 a fun z => hw (z ▸ List.mem_cons_of_mem _ (List.mem_map.mpr ⟨_, km, rfl⟩))).trans e⟩
  have K : Keep μ h μ h' := S.keeps F.store
  obtain ⟨c1, c2, ov, c3⟩ := F.cell _ km
  have nl : env.locals ≠ k := by
    intro z
    obtain ⟨o, h1, h2⟩ := c3
    obtain ⟨mr', ⟨o', es, ep, h3, h4, _⟩, _⟩ := F.ns
    rw [z, h1] at h3; cases h3; rw [h4] at h2; cases h2
  refine ⟨S, ⟨hG.ok, fun a o e => (hs.2 a fun z => ?_).trans (hG.base a o e), hG.new, hG.nodup, hG.len, fun i y a e1 e2 => (hG.rel i y a e1 e2).mono K fun o e => (hs.2 a fun z => ?_).trans e⟩, ?_⟩
  · rw [← z, e] at c2; cases c2
  · exact c1 (z ▸ List.mem_of_getElem? e2)
  · refine ⟨F.scope, F.kind, F.glob, F.blt, F.new, F.off, ?_, fun p hp => ?_, F.apart, fun y hy => ?_⟩
    · obtain ⟨mr, h1, h2⟩ := F.ns
      refine ⟨mr, h1.sameBut hs nl, fun y w hy hm' => ?_⟩
      have e : y ≠ x := by rintro rfl; rw [hl] at hy; cases hy
      unfold upd at hm'
      rw [if_neg e] at hm'
      obtain ⟨r', h3, h4⟩ := h2 y w hy hm'
      exact ⟨r', h3, VR.mono K _ _ h4⟩
    · obtain ⟨h1, h2, ov', h3⟩ := F.cell p hp
      by_cases e : p.2 = k
      · exact ⟨h1, h2, some r, e ▸ hn⟩
      · exact ⟨h1, h2, ov', h3.sameBut hs e⟩
    · obtain ⟨k', h1, h2⟩ := F.cls y hy
      refine ⟨k', h1, fun w hw => ?_⟩
      unfold upd at hw
      by_cases e : y = x
      · subst e
        rw [if_pos rfl] at hw; cases hw
        rw [hk] at h1; cases h1
        exact ⟨r, hn, VR.mono K _ _ hr⟩
      · rw [if_neg e] at hw
        obtain ⟨r', h3, h4⟩ := h2 w hw
        have : k' ≠ k := fun z => e (name_of_addr F.apart (mem_of_lookup h1) (z ▸ km))
        exact ⟨r', h3.sameBut hs this, VR.mono K _ _ h4⟩

theorem store_sound {A : Around} {env : Env} {μ : List Addr} {s : Shared} {E : Value → Shared → Prop} {Q : Unit → Shared → Prop} {x : Str} {v : V} {r : Value} (hG : HG c μ σ s.heap) (F : FG c sc env m μ s.heap) (hr : VR s.heap μ v r)
    (hl : sc.names.lookup x = some .local ∨ sc.names.lookup x = some .cell)
    (kk : ∀ h' tk, Step (Wof env) μ s.heap μ h' → HG c μ σ h' → FG c sc env (upd m x v) μ h' → Q () { s with heap := h', toks := tk }) : wpAny (model c.prog c.w) A (storeName env x r) Q E s := by
  have hko : env.kindOf x = sc.names.lookup x := by unfold Env.kindOf; rw [F.scope]
  have hkf : env.scope.kind = .function := F.scope ▸ F.kind
  rcases hl with hl | hl
  · obtain ⟨mr, h1, h2⟩ := F.ns
    refine wpAny_storeName_local (hko.trans hl) h1 (fun h' hn hs => ?_) (by rw [hkf]; rfl)
    obtain ⟨a, b, d⟩ := F.setLocal hG hr h2 hn hs hl
    exact kk h' _ a b d
  · obtain ⟨k, h1, h2⟩ := F.cls x (.inl hl)
    obtain ⟨_, _, ov, h3⟩ := F.cell _ (mem_of_lookup h1)
    refine wpAny_storeName_cell hkf (hko.trans hl) h1 h3 (fun h' hn hs => ?_)
    obtain ⟨a, b, d⟩ := F.setCell hG hr h1 hn hs hl
    exact kk h' s.toks a b d

noncomputable abbrev asgX (m : Loc) (x : Str) (Φ : Fl → Loc → List O → Prop) : V → List O → Prop := fun v σ' => Φ .next (upd m x v) σ'
theorem WpX_assign {x : Str} {xp pos : Pos} {value : Expr} {Φ : Fl → Loc → List O → Prop} (h : WpE c n sc m σ value (asgX m x Φ))
    (hl : sc.names.lookup x = some .local ∨ sc.names.lookup x = some .cell := by decide +kernel) (hs : ∀ env, swapsWith value (some (.Name x xp)) pos.line env = pure false := by intro _; rfl) : WpX c n sc m σ (.Assign [.Name x xp] value pos) Φ := by
  intro A env μ s Q E hR hG hF kk
  refine wpAny_Assign_Name (h A env μ s _ E hR hG hF fun r v σ' μ' h' tk hv S G V => ?_) (hs env)
  exact store_sound G (hF.step S) V hl fun h'' tk' S' G' F' => kk .next .next _ σ' μ' h'' tk' hv (S.widen.trans S') G' F' rfl
end

/-- bindings of a call -/
noncomputable def bindV : List (Str × V) → Loc → Loc
  | [], m => m
  | (x, v) :: r, m => bindV r (upd m x v)
theorem bind_rel {h : Heap} {μ : List Addr} {kindOf : Str → Option NameKind} : ∀ (names : List Str) (xs : List V) (vs : List Value) (m : Loc) (ml mc : Str → Option Value), VRs h μ xs vs →
    (∀ x v, kindOf x = some .local → m x = some v → ∃ r, ml x = some r ∧ VR h μ v r) → (∀ x v, kindOf x = some .cell → m x = some v → ∃ r, mc x = some r ∧ VR h μ v r) →
    (∀ x v, kindOf x = some .local → bindV (names.zip xs) m x = some v → ∃ r, bindL kindOf (names.zip vs) ml x = some r ∧ VR h μ v r) ∧
    (∀ x v, kindOf x = some .cell → bindV (names.zip xs) m x = some v → ∃ r, bindC kindOf (names.zip vs) mc x = some r ∧ VR h μ v r)
  | [], xs, vs, m, ml, mc, _, h1, h2 => ⟨h1, h2⟩
  | a :: names, [], vs, m, ml, mc, e, h1, h2 => by rw [VRs.nil_inv e]; exact ⟨h1, h2⟩
  | a :: names, x :: xs, vs, m, ml, mc, e, h1, h2 => by
    obtain ⟨v, ws, rfl, e1, e2⟩ := VRs.uncons e
    simp only [List.zip_cons_cons, bindV, bindL, bindC]
    refine bind_rel names xs ws (upd m a x) _ _ e2 (fun y w hy hm => ?_) (fun y w hy hm => ?_)
    · unfold upd at hm
      by_cases q : y = a
      · subst q
        rw [if_pos rfl] at hm; cases hm
        rw [if_pos hy]
        exact ⟨v, if_pos rfl, e1⟩
      · rw [if_neg q] at hm
        obtain ⟨r, g1, g2⟩ := h1 y w hy hm
        refine ⟨r, ?_, g2⟩
        split
        · show (if y = a then some v else ml y) = some r; rw [if_neg q]; exact g1
        · exact g1
    · unfold upd at hm
      by_cases q : y = a
      · subst q
        rw [if_pos rfl] at hm; cases hm
        rw [if_neg (by rw [hy]; decide)]
        exact ⟨v, if_pos rfl, e1⟩
      · rw [if_neg q] at hm
        obtain ⟨r, g1, g2⟩ := h2 y w hy hm
        refine ⟨r, ?_, g2⟩
        split
        · exact g1
        · show (if y = a then some v else mc y) = some r; rw [if_neg q]; exact g1

theorem cells_lookup : ∀ (names : List (Str × NameKind)) (k : Nat) (acc : List (Str × Addr)) (x : Str), (names.lookup x = some .cell ∨ (acc.lookup x).isSome = true) → ((cellsFrom k names acc).lookup x).isSome = true
  | [], _, _, _, h => by rcases h with h | h; simp at h; exact h
  | (y, kd) :: r, k, acc, x, h => by
    unfold cellsFrom
    split
    · rename_i hk
      refine cells_lookup r _ _ x ?_
      by_cases e : x = y
      · subst e; right; simp
      · have e' : (x == y) = false := by simpa using e
        rcases h with h | h
        · left; simpa [List.lookup_cons, e'] using h
        · right; simpa [List.lookup_cons, e'] using h
    · rename_i hk
      refine cells_lookup r _ _ x ?_
      by_cases e : x = y
      · subst e
        rcases h with h | h
        · simp at h; subst h; exact absurd rfl hk
        · exact .inr h
      · have e' : (x == y) = false := by simpa using e
        rcases h with h | h
        · left; simpa [List.lookup_cons, e'] using h
        · right; exact h
theorem cells_keys : ∀ (names : List (Str × NameKind)) (k k' : Nat) (acc acc' : List (Str × Addr)), acc.map (·.1) = acc'.map (·.1) → (cellsFrom k names acc).map (·.1) = (cellsFrom k' names acc').map (·.1)
  | [], _, _, _, _, h => h
  | (y, kd) :: r, k, k', acc, acc', h => by
    unfold cellsFrom
    split
    · exact cells_keys r _ _ _ _ (by simp [h])
    · exact cells_keys r _ _ _ _ h
theorem lookup_nodup {α : Type} : ∀ {l : List (Str × α)}, (l.map (·.1)).Nodup → ∀ {p : Str × α}, p ∈ l → l.lookup p.1 = some p.2
  | (k, v) :: r, hn, p, hp => by
    simp only [List.map_cons, List.nodup_cons] at hn
    rcases List.mem_cons.mp hp with rfl | hp
    · simp
    · have : p.1 ≠ k := fun e => hn.1 (e ▸ List.mem_map.mpr ⟨p, hp, rfl⟩)
      rw [List.lookup_cons]
      have e' : (p.1 == k) = false := by simpa using this
      rw [e']
      exact lookup_nodup hn.2 hp

/-- a def of the text -/
structure DefK (c : Cx) (f : Addr) (fd : FuncData) (names : List Str) (body : List Stmt) : Prop where
  at_ : ∃ oc od sl, c.K.lookup f = some ⟨oc, od, .func fd, sl⟩
  code : codeIn c.K fd.code fd.qualname = true
  body : fd.body = .stmts body
  clo : fd.closure = []
  glob : fd.globals = mainGlobals
  blt : fd.builtins = builtinsNs
  co : fd.scope.isCoroutine = false
  gen : fd.scope.isGenerator = false
  kind : fd.scope.kind = .function
  bind : ∀ vs : List Value, vs.length = names.length → bindArgs fd ⟨vs, []⟩ = pure (names.zip vs)
  names_ : (names.all fun x => decide (fd.scope.names.lookup x = some .local) || decide (fd.scope.names.lookup x = some .cell)) = true
  free : (fd.scope.names.all fun p => decide (p.2 ≠ .free)) = true
  nd : ((cellsFrom 0 fd.scope.names []).map (·.1)).Nodup

section
variable {c : Cx} {n : Nat} {σ : List O}
/-- a call, said of the code that runs -/
noncomputable def WpK (c : Cx) (n : Nat) (f : Value) (σ : List O) (xs : List V) (Φ : V → List O → Prop) : Prop :=
  ∀ (A : Around) (μ : List Addr) (s : Shared) (vs : List Value) (Q : Value → Shared → Prop) (E : Value → Shared → Prop),
    Room n A → HG c μ σ s.heap → VRs s.heap μ xs vs →
    (∀ r v σ' μ' h' tk, Φ v σ' → Step [] μ s.heap μ' h' → HG c μ' σ' h' → VR h' μ' v r → Q r { s with heap := h', toks := tk }) →
    codeAny (model c.prog c.w) A (.call f ⟨vs, []⟩) (fun r s' => match r with | .ok (.ret v) => Q v s' | .ok _ => False | .error e => E e s') s
theorem WpK.call {f : Value} {xs : List V} {Φ : V → List O → Prop} (h : WpK c n f σ xs Φ) : WpC c n f σ xs Φ :=
  fun A μ s vs Q E hR hG hv kk => wpAny_call (h A μ s vs Q E hR hG hv kk)
theorem WpK_def {f : Addr} {fd : FuncData} {names : List Str} {body : List Stmt} {xs : List V} {Φ : V → List O → Prop} (D : DefK c f fd names body) (hl : xs.length = names.length)
    (h : WpS c n fd.scope (bindV (names.zip xs) fun _ => none) σ body (retS Φ)) : WpK c (n + 1) (.ref f) σ xs Φ := by
  intro A μ s vs Q E hR hG hv kk
  obtain ⟨oc, od, sl, hK⟩ := D.at_
  have hvl := hv.length
  have hnm : ∀ x ∈ names, fd.scope.names.lookup x = some .local ∨ fd.scope.names.lookup x = some .cell := fun x hx => by
    have := List.all_eq_true.mp D.names_ x hx
    simpa using this
  refine (codeAny_call_cells (fd := fd) (body := body) (binds := names.zip vs) (by have := hR.depth; unfold recursionLimit; (first | lia | omega)) (hG.kin _ _ hK) rfl hG.top.nolimit (codeRec_of hG.kin D.code) D.body (D.bind vs (by (first | lia | omega))) D.clo ?_ ?_ D.co D.gen D.kind)
  · intro x hx
    rcases hnm _ (List.of_mem_zip hx).1 with q | q
    · exact .inl q
    · exact .inr ⟨q, cells_lookup _ _ _ _ (.inl q)⟩
  · intro s₁ I
    obtain ⟨⟨⟨h₁, tk₁, rfl⟩, hns, hkeep, hfresh⟩, hcell, hap, habove⟩ := I
    have S0 : Step [] μ s.heap μ h₁ := Step.of_keeps hkeep
    have G1 : HG c μ σ h₁ := hG.keeps hkeep
    have big : ∀ a : Addr, s.heap.objs.size ≤ a → s.heap.get? a = none := fun a ha => by
      cases q : s.heap.get? a with
      | none => rfl
      | some o => exact absurd (Heap.lt_size q) (Nat.not_lt.mpr ha)
    have hv1 := S0.vrs hv
    have br := bind_rel (h := h₁) (μ := μ) (kindOf := (callEnvC fd s.heap.objs.size f).kindOf) names xs vs (fun _ => none) (fun _ => none) (fun _ => none) hv1 (fun _ _ _ e => nomatch e) (fun _ _ _ e => nomatch e)
    have hko : ∀ x, (callEnvC fd s.heap.objs.size f).kindOf x = fd.scope.names.lookup x := fun _ => rfl
    have hgt : ∀ p ∈ (callEnvC fd s.heap.objs.size f).cells, s.heap.objs.size < p.2 := fun p hp => habove p.1 p.2 hp
    have hnd : ((callEnvC fd s.heap.objs.size f).cells.map (·.1)).Nodup := by
      show ((cellsFrom (s.heap.objs.size + 1) fd.scope.names []).map (·.1)).Nodup
      rw [cells_keys _ _ 0 [] [] rfl]; exact D.nd
    have F1 : FG c fd.scope (callEnvC fd s.heap.objs.size f) (bindV (names.zip xs) fun _ => none) μ h₁ := by
      refine ⟨rfl, D.kind, D.glob, D.blt, ?_, ?_, ⟨_, hns, fun x v hx hm => br.1 x v hx hm⟩, fun p hp => ?_, hap, fun x hx => ?_⟩
      · exact hG.fresh (get_size _)
      · exact hG.size_off
      · have h2 := hgt p hp
        refine ⟨fun hm => absurd (hG.lt hm) (Nat.not_lt.mpr (Nat.le_of_lt h2)), hG.fresh (big _ (Nat.le_of_lt h2)), _, hcell _ _ (lookup_nodup hnd hp)⟩
      · rcases hx with hx | hx
        · obtain ⟨k, hk⟩ := Option.isSome_iff_exists.mp (cells_lookup fd.scope.names (s.heap.objs.size + 1) [] x (.inl hx))
          refine ⟨k, hk, fun v hm => ?_⟩
          obtain ⟨r, h3, h4⟩ := br.2 x v hx hm
          have := hcell x k hk
          rw [h3] at this
          exact ⟨r, this, h4⟩
        · have := List.all_eq_true.mp D.free _ (mem_of_lookup hx)
          simp at this
    have R1 : Room n (A.deeper (callEnvC fd s.heap.objs.size f)) := ⟨hR.hand, by have := hR.depth; show A.depth + 1 + 2 * n + 2 < 1000; (first | lia | omega), by have := hR.units; rw [Around.deeper_units]; (first | lia | omega)⟩
    refine h _ _ μ { s with heap := h₁, toks := tk₁ } _ _ R1 G1 F1 fun r fl m' σ' μ' h' tk hf S G F V => ?_
    have S2 : Step [] μ s.heap μ' h' := by
      refine ⟨fun a o e => S.alive a o (hkeep a o e), ?_, fun a o e _ hm => S.keep a o (hkeep a o e) (fun hw => ?_) hm⟩
      · obtain ⟨ν, e1, e2⟩ := S.grow
        refine ⟨ν, e1, fun a ha => ?_⟩
        cases q : s.heap.get? a with
        | none => rfl
        | some o => have := e2 a ha; rw [hkeep a o q] at this; cases this
      · have h3 := Heap.lt_size e
        rcases List.mem_cons.mp hw with rfl | hw
        · exact absurd h3 (Nat.lt_irrefl _)
        · obtain ⟨p, hp, rfl⟩ := List.mem_map.mp hw
          exact absurd h3 (Nat.not_lt.mpr (Nat.le_of_lt (hgt p hp)))
    cases fl with
    | next => cases V; exact kk _ _ σ' μ' h' tk hf S2 G VR.nil
    | brk => cases V; exact kk _ _ σ' μ' h' tk hf S2 G VR.nil
    | cont => cases V; exact kk _ _ σ' μ' h' tk hf S2 G VR.nil
    | ret v => obtain ⟨r', rfl, hr⟩ := V; exact kk _ _ σ' μ' h' tk hf S2 G hr
theorem WpC_def {f : Addr} {fd : FuncData} {names : List Str} {body : List Stmt} {xs : List V} {Φ : V → List O → Prop} (D : DefK c f fd names body) (hl : xs.length = names.length)
    (h : WpS c n fd.scope (bindV (names.zip xs) fun _ => none) σ body (retS Φ)) : WpC c (n + 1) (.ref f) σ xs Φ := (WpK_def D hl h).call
end
end Mine
end

/-! part L8 -/
section
open PySem PySem.W PySem.Calls PyProof.Rows
set_option Elab.async false
set_option autoImplicit false
set_option linter.all false
namespace Mine

/-- what a global name of the text, or a built-in's, holds -/
inductive Glo (c : Cx) (x : Str) : Value → Prop
  | own {v : Value} : nsIn c.K mainGlobals x = some (some v) → Glo c x v
  | blt {v : Value} : nsIn c.K mainGlobals x = some none → bootBuiltins x = some v → x ≠ "__name__" → Glo c x v
noncomputable def CallKind (c : Cx) : Value → Prop
  | .ref a => keepIn c.K (.ref a) = true
  | .builtin _ => True
  | .type _ => True
  | _ => False

section
variable {c : Cx} {n : Nat} {sc : Scope} {m : Loc} {σ : List O}

theorem glo_sound {A : Around} {env : Env} {μ : List Addr} {s : Shared} {E : Value → Shared → Prop} {Q : Value → Shared → Prop} {x : Str} {pos : Pos} {v : Value} (hG : HG c μ σ s.heap) (F : FG c sc env m μ s.heap) (g : Glo c x v)
    (hk : sc.names.lookup x = some .globalImplicit) (hd : (x == ("__debug__" : Str)) = false) (h : Q v s) : wpAny (model c.prog c.w) A (eval (.Name x pos) env) Q E s := by
  have hko : env.kindOf x = some .globalImplicit := by unfold Env.kindOf; rw [F.scope]; exact hk
  have hkf : env.scope.kind = .function := F.scope ▸ F.kind
  have T := hG.top
  have g0 : s.heap.Ns env.globals c.mg := F.glob ▸ T.g
  have b0 : s.heap.Ns env.builtins c.mb := F.blt ▸ T.b
  cases g with
  | own e => exact Name_function_global hkf hko (loadGlobal_global g0 (mg_of hG.kin T.g e) h) hd
  | blt e e2 e3 => exact Name_function_global hkf hko (loadGlobal_builtin g0 (mg_none_of hG.kin T.g e) b0 ((T.builtins x e3).trans e2) h) hd

theorem callWith_any {A : Around} {env : Env} {s : Shared} {E : Value → Shared → Prop} {Q : Value → Shared → Prop} {pos : Pos} {f : Value} {first : List Value} {es : List Expr} (hk : CallKind c f) (hs : plainEs es)
    (h : wpAny (model c.prog c.w) A (spliced (es.map fun e => (false, eval e env))) (fun vs s₁ => c.K.In s₁.heap ∧ wpAny (model c.prog c.w) A (call f (first ++ vs)) Q E s₁) E s) :
    wpAny (model c.prog c.w) A (callWith pos f first (backTo pos (starEach es env)) []) Q E s := by
  rw [hs env pos]
  have key : ∀ h : Heap, c.K.In h → ∃ k, (k = Keeper.frame ∨ k = Keeper.machine ∨ k = Keeper.boundFrame) ∧ Looks (model c.prog c.w) h (keeperOf f) k := by
    intro hh X
    cases f with
    | ref a => exact keeps_K hk hh X
    | builtin id => exact ⟨.machine, .inr (.inl rfl), Looks.of_pure rfl⟩
    | type T => exact ⟨.machine, .inr (.inl rfl), Looks.of_pure rfl⟩
    | _ => exact hk.elim
  have pl : ((es.map fun e => (false, eval e env)).any (·.1) || ([] : List (Option Str × Sem Value)).any (·.1.isNone)) = false := by
    simp [List.any_map]
  refine callWith_of pl key ?_
  cases es with
  | nil =>
    simp only [List.map_nil] at h ⊢
    unfold evalArgs
    show wpAny _ A (spliced [] >>= _) _ E s
    refine wpAny_bind (wpAny_mono h (fun vs s' h' => wpAny_bind (wpAny_pure ?_)) fun _ _ x => x)
    refine wpAny_holding ?_
    exact wpAny_bind (wpAny_pure (wpAny_bind (wpAny_pure (wpAny_pure h'))))
  | cons e es => exact evalArgs_plain h

noncomputable abbrev callK (c : Cx) (n : Nat) (f : Value) (Φ : V → List O → Prop) : List V → List O → Prop := fun xs σ₁ => WpC c n f σ₁ xs Φ
theorem WpE_call {x : Str} {xp pos : Pos} {args : List Expr} {Φ : V → List O → Prop} (f : Value) (hf : Glo c x f) (hk : CallKind c f) (h : WpEs c n sc m σ args (callK c n f Φ))
    (hl : sc.names.lookup x = some .globalImplicit := by decide +kernel) (hd : (x == ("__debug__" : Str)) = false := by decide +kernel) (hs : plainEs args := by intro _ _; rfl) : WpE c n sc m σ (.Call (.Name x xp) args [] pos) Φ := by
  intro A env μ s Q E hR hG hF kk
  refine Call_ (glo_sound hG hF hf hl hd (callWith_any hk hs (h A env μ s _ E hR hG hF fun vs xs σ₁ μ₁ h₁ tk₁ hx S₁ G₁ V₁ => ⟨G₁.kin, ?_⟩)))
  exact hx A μ₁ _ vs Q E hR G₁ V₁ fun r v σ' μ' h' tk hΦ S' G' V' => kk r v σ' μ' h' tk hΦ (S₁.trans S') G' V'

/-- a method of the text's own class -/
structure MethK (c : Cx) (C f : Addr) (name : Str) : Prop where
  pg : plainGet c.K C name = true
  fi : findIn c.K (.ref C) name = some (some (.ref f))
  fn : isFn c.K (.ref f) = true
  kp : keepIn c.K (.ref f) = true

noncomputable abbrev methEq (o : Expr) (name : Str) (args : List Expr) (apos pos : Pos) (pl : Env → Sem Bool) : Prop := ∀ env, eval (.Call (.Attribute o name apos) args [] pos) env = (do
      let ov ← eval o env
      standAt apos.atName
      let (f, first) ← holding [ov] (getMethod ov name (pl env))
      callWith pos f first (backTo pos (starEach args env)) [])

theorem WpE_meth {C f : Addr} {o : Expr} {name : Str} {apos pos : Pos} {args : List Expr} {Φ : V → List O → Prop} (M : MethK c C f name)
    (h : WpE c n sc m σ o fun a σ₁ => ∃ i es, a = .inst C i ∧ σ₁[i]? = some (.sdict es) ∧ getK es name = none ∧ WpEs c n sc m σ₁ args fun xs σ₂ => WpC c n (.ref f) σ₂ (.inst C i :: xs) Φ)
    (pl : Env → Sem Bool := by exact fun env => (do return (← importBound _ env).getD true)) (he : methEq o name args apos pos pl := by intro _; rfl) (hs : plainEs args := by intro _ _; rfl) : WpE c n sc m σ (.Call (.Attribute o name apos) args [] pos) Φ := by
  intro A env μ s Q E hR hG hF kk
  refine MethodCall_ (h A env μ s _ E hR hG hF fun r a σ₁ μ₁ h₁ tk₁ ha S₁ G₁ V₁ => ?_) (he env)
  obtain ⟨i, es, rfl, h2, h3, h4⟩ := ha
  obtain ⟨x, d, rfl, _, g1, g2⟩ := V₁.inst_inv
  obtain ⟨kvs, g3, g4, g5⟩ := G₁.rel _ _ _ h2 g2
  obtain ⟨ds, ep, g8, g9⟩ := getL_of g3
  have g10 := (getK_real g4 g5).2 h3
  have I : InstAt h₁ x (instObj C d) C (some (dictOf ds ep)) := ⟨g1, rfl, rfl, g8⟩
  refine method_fn (s := { s with heap := h₁, toks := tk₁ }) G₁.kin I (plainGet_of M.pg).1 (plainGet_of M.pg).2 M.fi (beq_iff_eq.mp M.fn) (by show (lookIn name (dictOf ds ep)).map _ = _; rw [lookIn_dict, g9, g10]; rfl) ?_
  have F₁ := hF.step S₁
  refine callWith_any (c := c) (first := [.ref x]) M.kp hs (h4 A env μ₁ _ _ E hR G₁ F₁ fun vs xs σ₂ μ₂ h₂ tk₂ hx S₂ G₂ V₂ => ⟨G₂.kin, ?_⟩)
  exact hx A μ₂ _ (.ref x :: vs) Q E hR G₂ (VRs.cons (S₂.vr V₁) V₂) fun r v σ' μ' h' tk hΦ S' G' V' => kk r v σ' μ' h' tk hΦ ((S₁.trans S₂).trans S') G' V'

/-- a method of a built-in type, on a tracked object -/
theorem WpE_methB {T : String} {id : String} {o : Expr} {name : Str} {apos pos : Pos} {args : List Expr} {Φ : V → List O → Prop} (pa : PlainAttrs T) (slot : Slot T name id) (hty : typeOf (.builtin id) = pure (.type "method_descriptor"))
    (h : WpE c n sc m σ o fun a σ₁ => ∃ i x, a = .ref i ∧ σ₁[i]? = some x ∧ (match x with | .list _ => T = "list" | .junk => False | _ => T = "dict") ∧ WpEs c n sc m σ₁ args fun xs σ₂ => WpC c n (.builtin id) σ₂ (.ref i :: xs) Φ)
    (pl : Env → Sem Bool := by exact fun env => (do return (← importBound _ env).getD true)) (he : methEq o name args apos pos pl := by intro _; rfl) (hs : plainEs args := by intro _ _; rfl) : WpE c n sc m σ (.Call (.Attribute o name apos) args [] pos) Φ := by
  intro A env μ s Q E hR hG hF kk
  refine MethodCall_ (h A env μ s _ E hR hG hF fun r a σ₁ μ₁ h₁ tk₁ ha S₁ G₁ V₁ => ?_) (he env)
  obtain ⟨i, x, rfl, h2, h3, h4⟩ := ha
  obtain ⟨b, rfl, g2⟩ := V₁.ref_inv
  have ty : ({ s with heap := h₁, toks := tk₁ } : Shared).TypeIs (.ref b) T ∧ ∃ o, h₁.get? b = some o ∧ o.dict = none := by
    have g3 := G₁.rel _ _ _ h2 g2
    cases x with
    | list xs => obtain ⟨items, q, e1, _⟩ := g3; cases h3; exact ⟨⟨_, e1, rfl⟩, _, e1, rfl⟩
    | idict es => obtain ⟨kvs, ⟨o, es', ep, e1, ⟨e2, e3, _⟩, _⟩, _⟩ := g3; cases h3; exact ⟨⟨_, e1, e2⟩, _, e1, e3⟩
    | sdict es => obtain ⟨kvs, ⟨o, es', ep, e1, ⟨e2, e3, _⟩, _⟩, _⟩ := g3; cases h3; exact ⟨⟨_, e1, e2⟩, _, e1, e3⟩
    | tdict es => obtain ⟨xs, ds, ep, e1, _⟩ := g3; cases h3; exact ⟨⟨_, e1, rfl⟩, _, e1, rfl⟩
    | junk => exact h3.elim
  refine getMethod_builtin (s := { s with heap := h₁, toks := tk₁ }) ty.1 pa slot hty (fun a q => by cases q; exact ty.2) ?_
  have F₁ := hF.step S₁
  refine callWith_any (c := c) (f := .builtin id) (first := [.ref b]) trivial hs (h4 A env μ₁ _ _ E hR G₁ F₁ fun vs xs σ₂ μ₂ h₂ tk₂ hx S₂ G₂ V₂ => ⟨G₂.kin, ?_⟩)
  exact hx A μ₂ _ (.ref b :: vs) Q E hR G₂ (VRs.cons (S₂.vr V₁) V₂) fun r v σ' μ' h' tk hΦ S' G' V' => kk r v σ' μ' h' tk hΦ ((S₁.trans S₂).trans S') G' V'

theorem WpC_append {i : Nat} {v : V} {xs : List V} {Φ : V → List O → Prop} (hi : σ[i]? = some (.list xs)) (hz : xs.length < 1000000) (h : Φ .none (σ.set i (.list (xs ++ [v])))) : WpC c n (.builtin "list.append") σ [.ref i, v] Φ := by
  intro A μ s vs Q E hR hG hv kk
  obtain ⟨r1, w1, rfl, e1, e2⟩ := VRs.uncons hv
  obtain ⟨r2, w2, rfl, e3, e4⟩ := VRs.uncons e2
  rw [VRs.nil_inv e4]
  obtain ⟨b, rfl, hb⟩ := e1.ref_inv
  obtain ⟨items, q, g1, g2⟩ := hG.rel _ _ _ hi hb
  have hl := g2.length
  simp only [Array.length_toList] at hl
  refine append_at g1 (fun h' hs ho => ?_) (by unfold sizeLine; (first | lia | omega))
  obtain ⟨G', S'⟩ := hG.modify (x' := .list (xs ++ [v])) hi hb hs fun K => ⟨_, _, ho, by
    rw [Array.toList_push]
    exact (VRs.mono K _ _ g2).append (VRs.one (VR.mono K _ _ e3))⟩
  exact kk _ _ _ μ h' s.toks h S' G' VR.nil

noncomputable def putK {α : Type} [DecidableEq α] (es : List (α × V)) (k : α) (v : V) : List (α × V) :=
  if (getK es k).isSome then es.map (fun e => if e.1 = k then (e.1, v) else e) else es ++ [(k, v)]
theorem getK_some {α : Type} [DecidableEq α] {es : List (α × V)} {k : α} : (getK es k).isSome = es.any fun e => decide (e.1 = k) := by
  induction es with
  | nil => rfl
  | cons e es ih =>
    unfold getK at ih ⊢
    by_cases q : e.1 = k
    · simp [q]
    · simpa [q] using ih
theorem map_store_rel {α : Type} [DecidableEq α] {h : Heap} {μ : List Addr} {k : α} {v : V} {r : Value} (hr : VR h μ v r) : ∀ {es : List (α × V)} {kvs : List (α × Value)}, kvs.map (·.1) = es.map (·.1) → VRs h μ (es.map (·.2)) (kvs.map (·.2)) →
    VRs h μ ((es.map (fun e => if e.1 = k then (e.1, v) else e)).map (·.2)) ((kvs.map fun kv => if kv.1 = k then (kv.1, r) else kv).map (·.2))
  | [], [], _, _ => VRs.nil
  | [], _ :: _, e, _ => by simp at e
  | _ :: _, [], e, _ => by simp at e
  | (x, w) :: es, (y, q) :: kvs, e, e2 => by
    simp only [List.map_cons, List.cons.injEq] at e
    obtain ⟨rfl, e⟩ := e
    simp only [List.map_cons] at e2
    obtain ⟨r', ws, e3, e4, e5⟩ := VRs.uncons e2
    simp only [List.cons.injEq] at e3
    obtain ⟨rfl, rfl⟩ := e3
    have ih := map_store_rel (k := k) hr e e5
    simp only [List.map_cons]
    by_cases hk : y = k
    · simp only [hk, if_true]; exact VRs.cons hr (by simpa [hk] using ih)
    · simp only [hk, if_false]; exact VRs.cons e4 (by simpa using ih)
theorem map_store_keys {α β : Type} [DecidableEq α] (es : List (α × β)) (k : α) (v : β) : (es.map (fun e => if e.1 = k then (e.1, v) else e)).map (·.1) = es.map (·.1) := by
  rw [List.map_map]
  refine List.map_congr_left fun e _ => ?_
  show (if e.1 = k then (e.1, v) else e).1 = e.1
  split <;> rfl
theorem stored_real {α : Type} [DecidableEq α] {h : Heap} {μ : List Addr} {es : List (α × V)} {kvs : List (α × Value)} {k : α} {v : V} {r : Value} (e1 : kvs.map (·.1) = es.map (·.1)) (e2 : VRs h μ (es.map (·.2)) (kvs.map (·.2))) (hr : VR h μ v r) :
    (stored kvs k r).map (·.1) = (putK es k v).map (·.1) ∧ VRs h μ ((putK es k v).map (·.2)) ((stored kvs k r).map (·.2)) := by
  have hany : (kvs.any fun kv => decide (kv.1 = k)) = es.any fun e => decide (e.1 = k) := by
    have a : (kvs.any fun kv => decide (kv.1 = k)) = ((kvs.map (·.1)).any fun x => decide (x = k)) := by rw [List.any_map]; rfl
    have b : (es.any fun kv => decide (kv.1 = k)) = ((es.map (·.1)).any fun x => decide (x = k)) := by rw [List.any_map]; rfl
    rw [a, b, e1]
  unfold stored putK
  rw [getK_some, hany]
  split
  · exact ⟨by rw [map_store_keys, map_store_keys, e1], map_store_rel hr e1 e2⟩
  · refine ⟨by simp [e1], ?_⟩
    rw [List.map_append, List.map_append]
    exact e2.append (VRs.one hr)

theorem HG.sys {μ : List Addr} {h : Heap} (G : HG c μ σ h) {b : Addr} (hb : b ∈ μ) : (b == sysModules) = false := by
  rw [beq_eq_false_iff_ne]
  rintro rfl
  exact absurd (G.new _ hb).2 (by decide)

/-- d.get(k, default), k an int -/
theorem WpC_get {i : Nat} {es : List (Int × V)} {k : Int} {d : V} {Φ : V → List O → Prop} (hi : σ[i]? = some (.idict es)) (h : Φ ((getK es k).getD d) σ) : WpC c n (.builtin "dict.get") σ [.ref i, .int k, d] Φ := by
  intro A μ s vs Q E hR hG hv kk
  obtain ⟨r1, w1, rfl, e1, e2⟩ := VRs.uncons hv
  obtain ⟨r2, w2, rfl, e3, e4⟩ := VRs.uncons e2
  obtain ⟨r3, w3, rfl, e5, e6⟩ := VRs.uncons e4
  rw [VRs.nil_inv e6]
  obtain ⟨b, rfl, hb⟩ := e1.ref_inv
  obtain ⟨t, rfl⟩ := e3.int_inv
  obtain ⟨kvs, g1, g2, g3⟩ := hG.rel _ _ _ hi hb
  have hd := hG.sys (List.mem_of_getElem? hb)
  refine call_meetsIn PySem.F.slot_dict_get g1.typeIs PySem.F.entry_dict_get (PySem.F.args_dict_get_3 _ _ _) (meets_dict_get_default (intKind c.prog c.w) b (intKind_is _ _ k t) hd r3) ⟨_, g1.mapOf, ?_⟩
  refine kk _ _ σ μ s.heap _ h (Step.refl _ _ _) hG ?_
  have gr := getK_real (k := k) g2 g3
  cases q : getK es k with
  | some v =>
    obtain ⟨r, h1, h2⟩ := gr.1 v q
    rw [h1]; exact h2
  | none => rw [gr.2 q]; exact e5

/-- d.setdefault(k, default), k an int -/
theorem WpC_setdefault {i : Nat} {es : List (Int × V)} {k : Int} {d : V} {Φ : V → List O → Prop} (hi : σ[i]? = some (.idict es)) (hz : es.length < 1000000)
    (h : match getK es k with | some v => Φ v σ | none => Φ d (σ.set i (.idict (es ++ [(k, d)])))) : WpC c n (.builtin "dict.setdefault") σ [.ref i, .int k, d] Φ := by
  intro A μ s vs Q E hR hG hv kk
  obtain ⟨r1, w1, rfl, e1, e2⟩ := VRs.uncons hv
  obtain ⟨r2, w2, rfl, e3, e4⟩ := VRs.uncons e2
  obtain ⟨r3, w3, rfl, e5, e6⟩ := VRs.uncons e4
  rw [VRs.nil_inv e6]
  obtain ⟨b, rfl, hb⟩ := e1.ref_inv
  obtain ⟨t, rfl⟩ := e3.int_inv
  obtain ⟨kvs, g1, g2, g3⟩ := hG.rel _ _ _ hi hb
  have hd := hG.sys (List.mem_of_getElem? hb)
  have hl : kvs.length = es.length := by have := congrArg List.length g2; simpa using this
  have gr := getK_real (k := k) g2 g3
  refine call_meetsIn PySem.F.slot_dict_setdefault g1.typeIs PySem.F.entry_dict_setdefault (PySem.F.args_dict_setdefault_3 _ _ _) (kt_meets_setdefault (intKind c.prog c.w) b (intKind_is _ _ k t) hd r3) ⟨kvs, g1, by unfold sizeLine; (first | lia | omega), fun r hr => ?_, fun hn h' hd' hs => ?_⟩
  · cases q : getK es k with
    | some v =>
      rw [q] at h
      obtain ⟨r', h1, h2⟩ := gr.1 v q
      rw [hr] at h1; cases h1
      exact kk _ _ σ μ s.heap _ h (Step.refl _ _ _) hG h2
    | none => rw [gr.2 q] at hr; cases hr
  · cases q : getK es k with
    | some v =>
      obtain ⟨r', h1, h2⟩ := gr.1 v q
      rw [hn] at h1; cases h1
    | none =>
      rw [q] at h
      obtain ⟨G', S'⟩ := hG.modify (x' := .idict (es ++ [(k, d)])) hi hb hs fun K => by
        have sr := stored_real (k := k) g2 g3 e5
        have e : putK es k d = es ++ [(k, d)] := by unfold putK; rw [q]; rfl
        rw [e] at sr
        exact ⟨_, hd', sr.1, VRs.mono K _ _ sr.2⟩
      exact kk _ _ _ μ h' _ h S' G' (S'.vr e5)

noncomputable def IdO (o : Option O) (K : List (Int × V) → Prop) : Prop := match o with
  | some x => (match x with | .idict es => K es | _ => False)
  | none => False
theorem IdO.inv {o : Option O} {K : List (Int × V) → Prop} (h : IdO o K) : ∃ es, o = some (.idict es) ∧ K es := by
  cases o with
  | none => exact h.elim
  | some x => cases x with
    | idict es => exact ⟨es, rfl, h⟩
    | _ => exact h.elim
/-- o[i] = v -/
noncomputable def SetOk (σ : List O) (o i v : V) (k : List O → Prop) : Prop :=
  match o with
  | .ref r => (match i with
    | .int j => IdO (σ[r]?) fun es => es.length < 1000000 ∧ k (σ.set r (.idict (putK es j v)))
    | .str x => SdO (σ[r]?) fun es => es.length < 1000000 ∧ k (σ.set r (.sdict (putK es x v)))
    | .tup xs => TdO (σ[r]?) fun es => ∃ key, V.tup xs = keyV key ∧ PyData.strOk key.1 = true ∧ getK es key = none ∧ es.length < 1000000 ∧ k (σ.set r (.tdict (es ++ [(key, v)])))
    | _ => False)
  | _ => False
theorem set_sound {A : Around} {o i v : V} {ro ri rv : Value} {μ : List Addr} {s : Shared} {Φ : List O → Prop} {Q : Unit → Shared → Prop} {E : Value → Shared → Prop}
    (hR : Room n A) (hG : HG c μ σ s.heap) (ho : VR s.heap μ o ro) (hi : VR s.heap μ i ri) (hv : VR s.heap μ v rv) (h : SetOk σ o i v Φ)
    (kk : ∀ σ' h' tk, Φ σ' → Step [] μ s.heap μ h' → HG c μ σ' h' → Q () { s with heap := h', toks := tk }) :
    wpAny (model c.prog c.w) A (setItem ro ri rv) Q E s := by
  have hu : (tkKind c).room A.in1 := by show A.in1.units + 10 < cLine; have := hR.units; simp only [Around.in1_units]; unfold cLine; (first | lia | omega)
  cases o with
  | ref r =>
    obtain ⟨b, rfl, hb⟩ := ho.ref_inv
    cases i with
    | int j =>
      obtain ⟨t, rfl⟩ := hi.int_inv
      obtain ⟨es, he, h⟩ := IdO.inv h
      obtain ⟨kvs, g1, g2, g3⟩ := hG.rel _ _ _ he hb
      have hl : kvs.length = es.length := by have := congrArg List.length g2; simpa using this
      refine wpAny_setItem_pairs (intKind_is _ _ j t) g1 (fun h' hd hs => ?_) (by unfold sizeLine; (first | lia | omega))
      obtain ⟨G', S'⟩ := hG.modify (x' := .idict (putK es j v)) he hb hs fun K => by
        have sr := stored_real (k := j) g2 g3 hv
        exact ⟨_, hd, sr.1, VRs.mono K _ _ sr.2⟩
      exact kk _ h' _ h.2 S' G'
    | str x =>
      obtain ⟨t, rfl⟩ := hi.str_inv
      obtain ⟨es, he, h⟩ := SdO.inv h
      obtain ⟨kvs, g1, g2, g3⟩ := hG.rel _ _ _ he hb
      have hl : kvs.length = es.length := by have := congrArg List.length g2; simpa using this
      refine wpAny_setItem_pairs (strKind_is _ _ x t) g1 (fun h' hd hs => ?_) (by unfold sizeLine; (first | lia | omega))
      obtain ⟨G', S'⟩ := hG.modify (x' := .sdict (putK es x v)) he hb hs fun K => by
        have sr := stored_real (k := x) g2 g3 hv
        exact ⟨_, hd, sr.1, VRs.mono K _ _ sr.2⟩
      exact kk _ h' _ h.2 S' G'
    | tup xs =>
      obtain ⟨es, he, key, h1, h2, h3, h4, h5⟩ := TdO.inv h
      rw [h1] at hi
      obtain ⟨ys, g1, g2, g3, g4⟩ := OR.dictH (hG.rel _ _ _ he hb)
      obtain ⟨ka, _, _, rfl, _⟩ := VR.tup_inv hi
      have hl : ys.length = es.length := by have := congrArg List.length g2; simpa using this
      have hn := (atKey_real (k := key) g2 g3).2 h3
      refine wpAny_setItem_heap (knd := tkKind c) hu (vr_isTK hi h2) g1 (fun h' hd hs => ?_) (by unfold sizeLine; (first | lia | omega))
      rw [storedH_new hn] at hd
      obtain ⟨G', S'⟩ := hG.modify (x' := .tdict (es ++ [(key, v)])) he hb hs fun K => by
        obtain ⟨oo, ds, ep, d1, ⟨d2, d3, d4⟩, d5, d6, _, d8⟩ := hd
        obtain ⟨oc, od, oda, osl⟩ := oo
        simp only at d2 d3 d4 d5
        subst d2; subst d3; subst d4; subst d5
        refine ⟨_, ds, ep, d1, d6, fun x hx => ?_, d8, by simp [g2], ?_⟩
        · rcases List.mem_append.mp hx with hx | hx
          · exact ⟨VR.mono K _ _ (g4 x hx).1, (g4 x hx).2⟩
          · rw [List.mem_singleton.mp hx]; exact ⟨VR.mono K _ _ hi, h2⟩
        · rw [List.map_append, List.map_append]
          exact (VRs.mono K _ _ g3).append (VRs.one (VR.mono K _ _ hv))
      exact kk _ h' _ h5 S' G'
    | _ => exact h.elim
  | _ => exact h.elim

theorem WpX_setitem {sc : Scope} {m : Loc} {o i value : Expr} {sp pos : Pos} {Φ : Fl → Loc → List O → Prop} (h : WpE c n sc m σ value fun v σ₁ => WpE c n sc m σ₁ o fun a σ₂ => WpE c n sc m σ₂ i fun j σ₃ => SetOk σ₃ a j v fun σ₄ => Φ .next m σ₄)
    (hs : ∀ env, swapsWith value (some (.Subscript o i sp)) pos.line env = pure false := by intro _; rfl) : WpX c n sc m σ (.Assign [.Subscript o i sp] value pos) Φ := by
  intro A env μ s Q E hR hG hF kk
  refine wpAny_Assign_Subscript (h A env μ s _ E hR hG hF fun rv v σ₁ μ₁ h₁ tk₁ hv S₁ G₁ V₁ => ?_) (hs env)
  have F₁ := hF.step S₁
  refine hv A env μ₁ _ _ E hR G₁ F₁ fun ro a σ₂ μ₂ h₂ tk₂ ha S₂ G₂ V₂ => ?_
  have F₂ := F₁.step S₂
  refine ha A env μ₂ _ _ E hR G₂ F₂ fun ri j σ₃ μ₃ h₃ tk₃ hj S₃ G₃ V₃ => ?_
  have F₃ := F₂.step S₃
  have SS := (S₁.trans S₂).trans S₃
  exact set_sound (s := { s with heap := h₃, toks := tk₃ }) hR G₃ (S₃.vr V₂) V₃ (S₃.vr (S₂.vr V₁)) hj fun σ' h' tk hf S G => kk .next .next m σ' μ₃ h' tk hf (SS.trans S).widen G (F₃.step S) rfl
end
end Mine
end

/-! part L9 -/
section
open PySem PySem.W PySem.Calls PyProof.Rows
set_option Elab.async false
set_option autoImplicit false
set_option linter.all false
namespace Mine

/-- storing a value into a name -/
noncomputable def asg0 (sc : Scope) (e : PySem.Expr) (v : V) (m : Loc) : Option Loc := match e with
  | .Name x _ => if sc.names.lookup x = some .local ∨ sc.names.lookup x = some .cell then some (upd m x v) else none
  | _ => none
noncomputable def asgL (f : PySem.Expr → V → Loc → Option Loc) (es : List PySem.Expr) : List V → Loc → Option Loc :=
  @List.rec PySem.Expr (fun _ => List V → Loc → Option Loc) (fun xs m => match xs with | [] => some m | _ => none)
    (fun e _ ih xs m => match xs with | x :: xs => (f e x m).bind fun m' => ih xs m' | _ => none) es
/-- storing a value into a name, or into a tuple's targets by f -/
noncomputable def asgT (sc : Scope) (f : PySem.Expr → V → Loc → Option Loc) (e : PySem.Expr) (v : V) (m : Loc) : Option Loc := match e with
  | .Name x _ => if sc.names.lookup x = some .local ∨ sc.names.lookup x = some .cell then some (upd m x v) else none
  | .Tuple es _ _ => (match v with | .tup xs => asgL f es xs m | _ => none)
  | _ => none
noncomputable abbrev asgN (sc : Scope) : PySem.Expr → V → Loc → Option Loc := asgT sc (asg0 sc)
noncomputable abbrev asgs (sc : Scope) : List PySem.Expr → List V → Loc → Option Loc := asgL (asgN sc)
/-- storing a value into a target -/
noncomputable def asg1 (sc : Scope) : PySem.Expr → V → Loc → Option Loc := asgT sc (asgN sc)
theorem asgs_cons {sc : Scope} {e : PySem.Expr} {es : List PySem.Expr} {x : V} {xs : List V} {m : Loc} : asgs sc (e :: es) (x :: xs) m = (asgN sc e x m).bind fun m' => asgs sc es xs m' := rfl
theorem asgs_nil {sc : Scope} {m : Loc} : asgs sc [] [] m = some m := rfl
theorem asgN_name {sc : Scope} {x : Str} {p : Pos} {v : V} {m : Loc} : asgN sc (.Name x p) v m = if sc.names.lookup x = some .local ∨ sc.names.lookup x = some .cell then some (upd m x v) else none := rfl
theorem asg1_name {sc : Scope} {x : Str} {p : Pos} {v : V} {m : Loc} : asg1 sc (.Name x p) v m = if sc.names.lookup x = some .local ∨ sc.names.lookup x = some .cell then some (upd m x v) else none := rfl
theorem asg1_tup {sc : Scope} {es : List PySem.Expr} {k : Nat} {p : Pos} {xs : List V} {m : Loc} : asg1 sc (.Tuple es k p) (.tup xs) m = asgs sc es xs m := rfl

/-- all its names are locals -/
noncomputable def tl0 (sc : Scope) (e : PySem.Expr) : Bool := match e with
  | .Name x _ => decide (sc.names.lookup x = some .local)
  | _ => false
noncomputable def tlT (sc : Scope) (g : PySem.Expr → Bool) (e : PySem.Expr) : Bool := match e with
  | .Name x _ => decide (sc.names.lookup x = some .local)
  | .Tuple es _ _ => es.all g
  | _ => false
noncomputable def tl (sc : Scope) : PySem.Expr → Bool := tlT sc (tlT sc (tl0 sc))

theorem Step.weaken {W W' μ μ' : List Addr} {h h' : Heap} (S : Step W μ h μ' h') (hw : ∀ a ∈ W, a ∈ W') : Step W' μ h μ' h' := ⟨S.alive, S.grow, fun a o e hn hm => S.keep a o e (fun h => hn (hw a h)) hm⟩
theorem Step.one {a : Addr} {μ : List Addr} {h h' : Heap} (hs : Heap.SameBut a h h') (hn : ∃ o, h'.get? a = some o) : Step [a] μ h μ h' :=
  ⟨fun b o e => by
    by_cases z : b = a
    · rw [z]; exact hn
    · exact ⟨o, (hs.2 b z).trans e⟩, ⟨[], by simp, fun _ h => nomatch h⟩, fun b o e hw _ => (hs.2 b fun z => hw (by simp [z])).trans e⟩

section
variable {c : Cx} {n : Nat} {sc : Scope} {σ : List O}

theorem store_soundW {m : Loc} {A : Around} {env : Env} {μ W : List Addr} {s : Shared} {E : Value → Shared → Prop} {Q : Unit → Shared → Prop} {x : Str} {v : V} {r : Value} (hG : HG c μ σ s.heap) (F : FG c sc env m μ s.heap) (hr : VR s.heap μ v r)
    (hl : sc.names.lookup x = some .local ∨ sc.names.lookup x = some .cell) (hW : env.locals ∈ W) (hC : sc.names.lookup x = some .local ∨ ∀ p ∈ env.cells, p.2 ∈ W)
    (kk : ∀ h' tk, Step W μ s.heap μ h' → HG c μ σ h' → FG c sc env (upd m x v) μ h' → Q () { s with heap := h', toks := tk }) : wpAny (model c.prog c.w) A (storeName env x r) Q E s := by
  have hko : env.kindOf x = sc.names.lookup x := by unfold Env.kindOf; rw [F.scope]
  have hkf : env.scope.kind = .function := F.scope ▸ F.kind
  rcases hl with hl | hl
  · obtain ⟨mr, h1, h2⟩ := F.ns
    refine wpAny_storeName_local (hko.trans hl) h1 (fun h' hn hs => ?_) (by rw [hkf]; rfl)
    obtain ⟨a, b, d⟩ := F.setLocal hG hr h2 hn hs hl
    obtain ⟨o', es, ep, h5, _⟩ := hn
    exact kk h' _ ((Step.one hs ⟨o', h5⟩).weaken fun a ha => by rw [List.mem_singleton.mp ha]; exact hW) b d
  · obtain ⟨k, h1, h2⟩ := F.cls x (.inl hl)
    obtain ⟨_, _, ov, h3⟩ := F.cell _ (mem_of_lookup h1)
    refine wpAny_storeName_cell hkf (hko.trans hl) h1 h3 (fun h' hn hs => ?_)
    obtain ⟨a, b, d⟩ := F.setCell hG hr h1 hn hs hl
    have hC' : ∀ p ∈ env.cells, p.2 ∈ W := by
      rcases hC with q | q
      · rw [hl] at q; cases q
      · exact q
    obtain ⟨o', h5, _⟩ := hn
    exact kk h' s.toks ((Step.one hs ⟨o', h5⟩).weaken fun a ha => by rw [List.mem_singleton.mp ha]; exact hC' _ (mem_of_lookup h1)) b d

theorem keeps_of_ext {h h' : Heap} (e : Heap.ExtBut h.objs.size h h') : ∀ a o, h.get? a = some o → h'.get? a = some o :=
  fun a o q => e a o (Nat.ne_of_lt (Heap.lt_size q)) q

/-- f's stores are sound -/
noncomputable def AsgOk (c : Cx) (sc : Scope) (σ : List O) (env : Env) (f : PySem.Expr → V → Loc → Option Loc) (g : PySem.Expr → Bool) : Prop :=
  ∀ e v m m', f e v m = some m' → (∀ es, assignEach (e :: es) env = (false, assign e env) :: assignEach es env) ∧
    ∀ (A : Around) (μ W : List Addr) (E : Value → Shared → Prop) (s : Shared) (r : Value) (Q : Unit → Shared → Prop), A.handled = none → env.locals ∈ W → (∀ x ∈ W, x ∈ Wof env) → (g e = true ∨ ∀ p ∈ env.cells, p.2 ∈ W) → HG c μ σ s.heap → FG c sc env m μ s.heap → VR s.heap μ v r →
      (∀ h' tk, Step W μ s.heap μ h' → HG c μ σ h' → FG c sc env m' μ h' → Q () { s with heap := h', toks := tk }) → wpAny (model c.prog c.w) A (assign e env r) Q E s
theorem asg_name_ok {env : Env} {x : Str} {p : Pos} {v : V} {m m' : Loc} {t : Bool} (ht : t = decide (sc.names.lookup x = some .local)) (h : (if sc.names.lookup x = some .local ∨ sc.names.lookup x = some .cell then some (upd m x v) else none) = some m') {A : Around} {μ W : List Addr} {E : Value → Shared → Prop} {s : Shared} {r : Value} {Q : Unit → Shared → Prop} (hW : env.locals ∈ W) (hC : t = true ∨ ∀ p ∈ env.cells, p.2 ∈ W) (hG : HG c μ σ s.heap) (hF : FG c sc env m μ s.heap) (hv : VR s.heap μ v r)
    (kk : ∀ h' tk, Step W μ s.heap μ h' → HG c μ σ h' → FG c sc env m' μ h' → Q () { s with heap := h', toks := tk }) : wpAny (model c.prog c.w) A (assign (.Name x p) env r) Q E s := by
  by_cases hl : sc.names.lookup x = some .local ∨ sc.names.lookup x = some .cell
  · cases Option.some.inj ((if_pos hl).symm.trans h)
    exact wpAny_assign_Name (store_soundW hG hF hv hl hW (hC.imp (fun q => of_decide_eq_true (ht.symm.trans q)) id) kk)
  · exact nomatch (if_neg hl).symm.trans h
theorem asg0_ok {env : Env} : AsgOk c sc σ env (asg0 sc) (tl0 sc) := by
  intro e v m m' h
  cases e with
  | Name x p => exact ⟨fun _ => rfl, fun A μ W E s r Q _ hW _ hC hG hF hv kk => asg_name_ok (p := p) rfl h hW hC hG hF hv kk⟩
  | _ => exact nomatch (show (none : Option Loc) = some m' from h)
theorem asgL_length {f : PySem.Expr → V → Loc → Option Loc} {g : PySem.Expr → Bool} {env : Env} (ok : AsgOk c sc σ env f g) : ∀ {es : List PySem.Expr} {xs : List V} {m m' : Loc}, asgL f es xs m = some m' → (assignEach es env).length = xs.length ∧ (assignEach es env).findIdx? (·.1) = none := by
  intro es
  induction es with
  | nil => intro xs m m' h; cases xs with
    | nil => exact ⟨rfl, rfl⟩
    | cons => exact nomatch (show (none : Option Loc) = some m' from h)
  | cons e es ih => intro xs m m' h; cases xs with
    | nil => exact nomatch (show (none : Option Loc) = some m' from h)
    | cons x xs =>
      obtain ⟨m₁, h1, h2⟩ := Option.bind_eq_some_iff.mp h
      obtain ⟨a, b⟩ := ih h2
      rw [(ok e x m m₁ h1).1 es]
      refine ⟨congrArg (· + 1) a, ?_⟩
      rw [List.findIdx?_cons, b]; rfl
theorem asgL_sound {f : PySem.Expr → V → Loc → Option Loc} {g : PySem.Expr → Bool} {A : Around} {env : Env} (ok : AsgOk c sc σ env f g) {μ W : List Addr} {E : Value → Shared → Prop} (hh : A.handled = none) (hW : env.locals ∈ W) (hWs : ∀ x ∈ W, x ∈ Wof env) : ∀ (es : List PySem.Expr) (xs : List V) (m m' : Loc) (s : Shared) (rs : List Value) (Q : Unit → Shared → Prop), (es.all g = true ∨ ∀ p ∈ env.cells, p.2 ∈ W) → asgL f es xs m = some m' → HG c μ σ s.heap → FG c sc env m μ s.heap → VRs s.heap μ xs rs →
    (∀ h' tk, Step W μ s.heap μ h' → HG c μ σ h' → FG c sc env m' μ h' → Q () { s with heap := h', toks := tk }) → wpAny (model c.prog c.w) A (assignInOrder ((assignEach es env).map (·.2)) rs) Q E s := by
  intro es
  induction es with
  | nil => intro xs m m' s rs Q hC h hG hF hv kk; cases xs with
    | nil => rw [VRs.nil_inv hv]; cases Option.some.inj h; exact wpAny_pure (kk s.heap s.toks (Step.refl _ _ _) hG hF)
    | cons => exact nomatch (show (none : Option Loc) = some m' from h)
  | cons e es ih => intro xs m m' s rs Q hC h hG hF hv kk; cases xs with
    | nil => exact nomatch (show (none : Option Loc) = some m' from h)
    | cons x xs =>
      obtain ⟨m₁, h1, h2⟩ := Option.bind_eq_some_iff.mp h
      obtain ⟨r, ws, rfl, e1, e2⟩ := VRs.uncons hv
      obtain ⟨p1, p2⟩ := ok e x m m₁ h1
      rw [p1 es]
      show wpAny _ _ (holding ws (assign e env r) >>= fun _ => assignInOrder ((assignEach es env).map (·.2)) ws) _ _ _
      refine wpAny_bind (wpAny_holding (p2 A μ W _ s r _ hh hW hWs (hC.imp (fun q => (Bool.and_eq_true_iff.mp q).1) id) hG hF e1 fun h' tk S G F => ?_))
      have K := S.keeps fun a ha => hF.store a (hWs a ha)
      exact ih xs m₁ m' { s with heap := h', toks := tk } ws Q (hC.imp (fun q => (Bool.and_eq_true_iff.mp q).2) id) h2 G F (VRs.mono K _ _ e2) fun h'' tk' S' G' F' => kk h'' tk' (S.trans S') G' F'
theorem asgT_ok {env : Env} {f : PySem.Expr → V → Loc → Option Loc} {g : PySem.Expr → Bool} (ok : AsgOk c sc σ env f g) : AsgOk c sc σ env (asgT sc f) (tlT sc g) := by
  intro e v m m' h
  cases e with
  | Name x p => exact ⟨fun _ => rfl, fun A μ W E s r Q _ hW _ hC hG hF hv kk => asg_name_ok (p := p) rfl h hW hC hG hF hv kk⟩
  | Tuple es k p => cases v with
    | tup xs =>
      refine ⟨fun _ => rfl, fun A μ W E s r Q hh hW hWs hC hG hF hv kk => ?_⟩
      obtain ⟨a, items, q, rfl, _, g1, g2⟩ := hv.tup_inv
      have hl := g2.length
      simp only [Array.length_toList] at hl
      obtain ⟨l1, l2⟩ := asgL_length ok (show asgL f es xs m = some m' from h)
      refine wpAny_assign_Tuple hh (isTuple_of g1) (l1.trans hl.symm) l2 fun h' he => ?_
      have k0 := keeps_of_ext he
      have S0 : Step [] μ s.heap μ h' := Step.of_keeps k0
      exact asgL_sound ok hh hW hWs es xs m m' { s with heap := h' } items.toList Q hC h (hG.keeps k0) (hF.step S0) (S0.vrs g2) fun h'' tk S G F => kk h'' tk (S0.widen.trans S) G F
    | _ => exact nomatch (show (none : Option Loc) = some m' from h)
  | _ => exact nomatch (show (none : Option Loc) = some m' from h)
theorem asgW1_sound {A : Around} {env : Env} {μ W : List Addr} {E : Value → Shared → Prop} (hh : A.handled = none) (hW : env.locals ∈ W) (hWs : ∀ x ∈ W, x ∈ Wof env) (e : PySem.Expr) (v : V) (m m' : Loc) (s : Shared) (r : Value) (Q : Unit → Shared → Prop) (hC : tl sc e = true ∨ ∀ p ∈ env.cells, p.2 ∈ W) (h : asg1 sc e v m = some m') (hG : HG c μ σ s.heap) (hF : FG c sc env m μ s.heap) (hv : VR s.heap μ v r)
    (kk : ∀ h' tk, Step W μ s.heap μ h' → HG c μ σ h' → FG c sc env m' μ h' → Q () { s with heap := h', toks := tk }) : wpAny (model c.prog c.w) A (assign e env r) Q E s :=
  (asgT_ok (asgT_ok asg0_ok) e v m m' h).2 A μ W E s r Q hh hW hWs hC hG hF hv kk
theorem asg1_sound {A : Around} {env : Env} {μ : List Addr} {E : Value → Shared → Prop} (hh : A.handled = none) (e : PySem.Expr) (v : V) (m m' : Loc) (s : Shared) (r : Value) (Q : Unit → Shared → Prop) (h : asg1 sc e v m = some m') (hG : HG c μ σ s.heap) (hF : FG c sc env m μ s.heap) (hv : VR s.heap μ v r)
    (kk : ∀ h' tk, Step (Wof env) μ s.heap μ h' → HG c μ σ h' → FG c sc env m' μ h' → Q () { s with heap := h', toks := tk }) : wpAny (model c.prog c.w) A (assign e env r) Q E s :=
  asgW1_sound hh List.mem_cons_self (fun _ h => h) e v m m' s r Q (.inr fun p hp => List.mem_cons_of_mem _ (List.mem_map.mpr ⟨p, hp, rfl⟩)) h hG hF hv kk
end
end Mine
end

/-! part L10 -/
section
open PySem PySem.W PySem.Calls PyProof.Rows
set_option Elab.async false
set_option autoImplicit false
set_option linter.all false
namespace Mine

section
variable {c : Cx} {n : Nat} {sc : Scope} {m : Loc} {σ : List O}

theorem exec_Assign_all (env : Env) (targets : List Expr) (value : Expr) (pos : Pos) (hs : swapsWithSole targets value pos.line env = pure false) : exec (.Assign targets value pos) env =
    (standAt pos >>= fun _ => eval value env >>= fun v => swappedStores targets value env >>= fun sw => assignStores env v sw ((assignEach targets env).map Prod.snd)) := by
  show (standAt pos >>= fun _ => swapsWithSole targets value pos.line env >>= fun b => if b = true then _ else (eval value env >>= fun v => swappedStores targets value env >>= fun sw => assignStores env v sw ((assignEach targets env).map Prod.snd))) = _
  rw [hs]; rfl

/-- one target, taken to pieces -/
theorem WpX_assignT {t value : Expr} {pos : Pos} {Φ : Fl → Loc → List O → Prop} (h : WpE c n sc m σ value fun v σ' => ∃ m', asg1 sc t v m = some m' ∧ Φ .next m' σ')
    (hs : ∀ env, swapsWithSole [t] value pos.line env = pure false := by intro _; rfl) (hw : ∀ env : Env, env.scope = sc → swappedStores [t] value env = pure none := by intro env h; cases env; subst h; rfl)
    (ht : ∀ env, assignEach [t] env = [(false, assign t env)] := by intro _; rfl) : WpX c n sc m σ (.Assign [t] value pos) Φ := by
  intro A env μ s Q E hR hG hF kk
  show wpAny _ _ (exec (.Assign [t] value pos) env) _ _ _
  rw [exec_Assign_all env [t] value pos (hs env), ht env]
  refine wpAny_bind (wpAny_standAt (wpAny_bind (h A env μ s _ E hR hG hF fun r v σ' μ' h' tk hv S G V => ?_)))
  rw [hw env hF.scope]
  obtain ⟨m', h1, h2⟩ := hv
  refine wpAny_bind (wpAny_pure ?_)
  show wpAny _ _ (assignAll r [assign t env] >>= fun _ => pure Flow.next) _ _ _
  refine wpAny_bind ?_
  show wpAny _ _ (assign t env r) _ _ _
  exact asg1_sound hR.hand t v m m' { s with heap := h', toks := tk } r _ h1 G (hF.step S) V fun h'' tk' S' G' F' => wpAny_pure (kk .next .next m' σ' μ' h'' tk' h2 (S.widen.trans S') G' F' rfl)


theorem VRs.reverse {h : Heap} {μ : List Addr} : ∀ {xs : List V} {vs : List Value}, VRs h μ xs vs → VRs h μ xs.reverse vs.reverse
  | [], _, e => by rw [VRs.nil_inv e]; exact VRs.nil
  | x :: xs, _, e => by
    obtain ⟨v, ws, rfl, e1, e2⟩ := VRs.uncons e
    rw [List.reverse_cons, List.reverse_cons]
    exact (VRs.reverse e2).append (VRs.one e1)
theorem binds_sound {A : Around} {env : Env} {μ : List Addr} {E : Value → Shared → Prop} : ∀ (names : List Str) (xs : List V) (m : Loc) (s : Shared) (rs : List Value) (Q : Unit → Shared → Prop), (names.all fun x => decide (sc.names.lookup x = some .local)) = true → xs.length = names.length → HG c μ σ s.heap → FG c sc env m μ s.heap → VRs s.heap μ xs rs →
    (∀ h' tk, Step (Wof env) μ s.heap μ h' → HG c μ σ h' → FG c sc env (bindV (names.zip xs) m) μ h' → Q () { s with heap := h', toks := tk }) → wpAny (model c.prog c.w) A (assignInOrder (names.map fun n => bindName env n) rs) Q E s
  | [], [], m, s, rs, Q, hl, _, hG, hF, hv, kk => by
    rw [VRs.nil_inv hv]
    exact wpAny_pure (kk s.heap s.toks (Step.refl _ _ _) hG hF)
  | [], _ :: _, _, _, _, _, _, h, _, _, _, _ => by simp at h
  | _ :: _, [], _, _, _, _, _, h, _, _, _, _ => by simp at h
  | a :: names, x :: xs, m, s, rs, Q, hl, h, hG, hF, hv, kk => by
    simp only [List.all_cons, Bool.and_eq_true, decide_eq_true_eq] at hl
    obtain ⟨r, ws, rfl, e1, e2⟩ := VRs.uncons hv
    show wpAny _ _ (holding ws (bindName env a r) >>= fun _ => assignInOrder (names.map fun n => bindName env n) ws) _ _ _
    refine wpAny_bind (wpAny_holding (wpAny_bindName (store_sound hG hF e1 (.inl hl.1) fun h' tk S G F => ?_)))
    have K := S.keeps hF.store
    exact binds_sound names xs _ { s with heap := h', toks := tk } ws Q hl.2 (by simpa using h) G F (VRs.mono K _ _ e2) fun h'' tk' S' G' F' => kk h'' tk' (S.trans S') G' F'

/-- a, b = x, y: the stores are exchanged -/
theorem WpX_swap (names : List Str) {t value : Expr} {pos : Pos} {Φ : Fl → Loc → List O → Prop} (h : WpE c n sc m σ value fun v σ' => ∃ xs, v = .tup xs ∧ xs.length = names.length ∧ Φ .next (bindV (names.reverse.zip xs.reverse) m) σ')
    (hw : ∀ env : Env, env.scope = sc → swappedStores [t] value env = pure (some names)) (hl : (names.reverse.all fun x => decide (sc.names.lookup x = some .local)) = true)
    (hs : ∀ env, swapsWithSole [t] value pos.line env = pure false) : WpX c n sc m σ (.Assign [t] value pos) Φ := by
  intro A env μ s Q E hR hG hF kk
  show wpAny _ _ (exec (.Assign [t] value pos) env) _ _ _
  rw [exec_Assign_all env [t] value pos (hs env)]
  refine wpAny_bind (wpAny_standAt (wpAny_bind (h A env μ s _ E hR hG hF fun r v σ' μ' h' tk hv S G V => ?_)))
  rw [hw env hF.scope]
  obtain ⟨xs, rfl, hx, h2⟩ := hv
  obtain ⟨ad, items, q, rfl, _, g1, g2⟩ := V.tup_inv
  have hlen := g2.length
  simp only [Array.length_toList] at hlen
  refine wpAny_bind (wpAny_pure ?_)
  show wpAny _ _ (rule _ >>= fun _ => unpackItems (.ref ad) names.length none >>= _) _ _ _
  refine wpAny_bind (wpAny_rule (wpAny_bind ?_))
  have hl2 : items.size = names.length := by (first | lia | omega)
  rw [← hl2]
  refine wpAny_unpackItems_tuple hR.hand (isTuple_of g1) fun h'' he => ?_
  have k0 := keeps_of_ext he
  have S0 : Step [] μ' h' μ' h'' := Step.of_keeps k0
  have G0 := G.keeps k0
  have F0 := (hF.step S).step S0
  refine wpAny_bind (binds_sound names.reverse xs.reverse m { s with heap := h'', toks := tk } _ _ hl (by simp [hx]) G0 F0 (S0.vrs g2).reverse fun h3 tk3 S3 G3 F3 => ?_)
  exact wpAny_pure (kk .next .next _ σ' μ' h3 tk3 h2 ((S.trans S0).widen.trans S3) G3 F3 rfl)

/-! ### iterators -/
noncomputable def isIt (o : Obj) : Prop := (∃ xs, o.data = .fields xs) ∧ o.cls ≠ .type "range"
theorem isIt.not {o : Obj} (h : isIt o) : ¬ isVal o := by
  obtain ⟨⟨xs, h1⟩, h2⟩ := h
  rintro (⟨_, _, rfl⟩ | ⟨_, _, rfl⟩ | ⟨_, _, rfl⟩ | ⟨_, _, _, _, _, rfl⟩)
  · cases h1
  · cases h1
  · cases h1
  · exact h2 rfl
theorem isIt.notStore {o : Obj} (h : isIt o) : ¬ isStore o := by
  obtain ⟨⟨xs, h1⟩, h2⟩ := h
  rintro (⟨_, _, e⟩ | ⟨_, e⟩) <;> rw [h1] at e <;> cases e

/-- I is an iterator of the walk's own: no part of what is tracked -/
structure Own (c : Cx) (μ : List Addr) (h : Heap) (I : Addr) : Prop where
  it : ∃ o, h.get? I = some o ∧ isIt o
  off : I ∉ μ
  new : c.h₀.get? I = none
theorem Own.step {W μ μ' : List Addr} {h h' : Heap} {I : Addr} (X : Own c μ h I) (S : Step W μ h μ' h') (hw : I ∉ W) : Own c μ' h' I := by
  obtain ⟨o, h1, h2⟩ := X.it
  exact ⟨⟨o, S.keep _ _ h1 hw X.off, h2⟩, S.off h1 X.off, X.new⟩
theorem Own.notW {μ : List Addr} {h : Heap} {I : Addr} {env : Env} (X : Own c μ h I) (F : FG c sc env m μ h) : I ∉ Wof env := by
  intro hm
  obtain ⟨o, h1, h2⟩ := X.it
  exact h2.notStore (F.store I hm o h1)
noncomputable def Chg (I : Addr) (h h' : Heap) : Prop := ∀ b o, b ≠ I → h.get? b = some o → h'.get? b = some o
theorem Chg.keep {μ : List Addr} {h h' : Heap} {I : Addr} (C : Chg I h h') (X : Own c μ h I) : Keep μ h μ h' :=
  ⟨⟨[], by simp, fun _ h => nomatch h⟩, fun a o e _ hv => C a o (by rintro rfl; obtain ⟨o', h1, h2⟩ := X.it; rw [e] at h1; cases h1; exact h2.not hv) e⟩
theorem Chg.hg {μ : List Addr} {h h' : Heap} {I : Addr} (C : Chg I h h') (X : Own c μ h I) (G : HG c μ σ h) : HG c μ σ h' :=
  ⟨G.ok, fun a o e => C a o (by rintro rfl; rw [X.new] at e; cases e) (G.base a o e), G.new, G.nodup, G.len, fun i x a e1 e2 => (G.rel i x a e1 e2).mono (C.keep X) fun o e => C a o (by rintro rfl; exact X.off (List.mem_of_getElem? e2)) e⟩
theorem Chg.fg {μ : List Addr} {h h' : Heap} {I : Addr} {env : Env} (C : Chg I h h') (X : Own c μ h I) (F : FG c sc env m μ h) : FG c sc env m μ h' := by
  have nw := X.notW F
  have nl : env.locals ≠ I := fun e => nw (e ▸ List.mem_cons_self)
  have nc : ∀ p ∈ env.cells, p.2 ≠ I := fun p hp e => nw (e ▸ List.mem_cons_of_mem _ (List.mem_map.mpr ⟨p, hp, rfl⟩))
  refine ⟨F.scope, F.kind, F.glob, F.blt, F.new, F.off, ?_, fun p hp => ?_, F.apart, fun x hx => ?_⟩
  · obtain ⟨mr, h1, h2⟩ := F.ns
    refine ⟨mr, h1.at' fun o e => C _ o nl e, fun x v hl hm => ?_⟩
    obtain ⟨r, h3, h4⟩ := h2 x v hl hm
    exact ⟨r, h3, VR.mono (C.keep X) _ _ h4⟩
  · obtain ⟨h1, h2, ov, o, h3, h4⟩ := F.cell p hp
    exact ⟨h1, h2, ov, o, C _ o (nc p hp) h3, h4⟩
  · obtain ⟨k, h1, h2⟩ := F.cls x hx
    refine ⟨k, h1, fun v hv => ?_⟩
    obtain ⟨r, ⟨o, h3, h4⟩, h5⟩ := h2 v hv
    exact ⟨r, ⟨o, C _ o (nc _ (mem_of_lookup h1)) h3, h4⟩, VR.mono (C.keep X) _ _ h5⟩
/-- a change of an iterator that did not stand at the start -/
theorem Step.chg {W μ μ' : List Addr} {h h' h'' : Heap} {I : Addr} (S : Step W μ h μ' h') (C : Chg I h' h'') (hI : h.get? I = none) : Step W μ h μ' h'' := by
  refine ⟨fun a o e => ?_, S.grow, fun a o e hw hm => C a o (by rintro rfl; rw [hI] at e; cases e) (S.keep a o e hw hm)⟩
  obtain ⟨o', e'⟩ := S.alive a o e
  exact ⟨o', C a o' (by rintro rfl; rw [hI] at e; cases e) e'⟩

/-- the iterator I has yet to give xs -/
inductive ItF (h : Heap) (μ : List Addr) (I : Addr) (tr : Option (Nat × List V)) : List V → Prop
  | lst {a : Addr} {items : Array Value} {k i : Nat} {xs : List V} : h.IsListIter I a i → a ∉ μ → h.get? a = some (lstO items k) → VRs h μ xs (items.toList.drop i) → ItF h μ I tr xs
  | tup {a : Addr} {items : Array Value} {k i : Nat} {xs : List V} : h.IsTupleIter I a i → a ∉ μ → h.get? a = some (tupO items k) → VRs h μ xs (items.toList.drop i) → ItF h μ I tr xs
  | trk {r : Nat} {a : Addr} {i : Nat} {all xs : List V} : h.IsListIter I a i → μ[r]? = some a → xs = all.drop i → tr = some (r, all) → ItF h μ I tr xs
  | rng {x left : Int} {xs : List V} : IsRangeIter h I x left 1 → 0 ≤ left → xs = ((List.range left.toNat).map fun (j : Nat) => V.int (x + (j : Int))) → ItF h μ I tr xs
theorem ItF.keep {h h' : Heap} {μ μ' : List Addr} {I : Addr} {tr : Option (Nat × List V)} {xs : List V} (x : ItF h μ I tr xs) (K : Keep μ h μ' h') (e : ∀ o, h.get? I = some o → h'.get? I = some o) : ItF h' μ' I tr xs := by
  cases x with
  | lst h1 h2 h3 h4 => obtain ⟨o, a1, a2⟩ := h1; exact .lst ⟨o, e o a1, a2⟩ (K.off h3 h2) (K.keep _ _ h3 h2 (.inr (.inl ⟨_, _, rfl⟩))) (VRs.mono K _ _ h4)
  | tup h1 h2 h3 h4 => obtain ⟨o, a1, a2⟩ := h1; exact .tup ⟨o, e o a1, a2⟩ (K.off h3 h2) (K.keep _ _ h3 h2 (.inl ⟨_, _, rfl⟩)) (VRs.mono K _ _ h4)
  | trk h1 h2 h3 h4 => obtain ⟨o, a1, a2⟩ := h1; exact .trk ⟨o, e o a1, a2⟩ (K.idx h2) h3 h4
  | rng h1 h2 h3 => exact .rng (e _ h1) h2 h3

theorem drop_uncons {vs : List Value} {i : Nat} {v : Value} {ws : List Value} (e : vs.drop i = v :: ws) : vs[i]? = some v ∧ vs.drop (i + 1) = ws := by
  have h1 : (vs.drop i)[0]? = some v := by rw [e]; rfl
  have h2 : (vs.drop i).drop 1 = ws := by rw [e]; rfl
  rw [List.getElem?_drop] at h1
  rw [List.drop_drop] at h2
  exact ⟨h1, h2⟩
theorem drop_nil {vs : List Value} {i : Nat} (e : vs.drop i = []) : vs[i]? = none := by
  have h1 : (vs.drop i)[0]? = none := by rw [e]; rfl
  rwa [List.getElem?_drop] at h1

/-- what a next gives -/
noncomputable def NextR (h : Heap) (μ : List Addr) (I : Addr) (tr : Option (Nat × List V)) (xs : List V) (r : Option Value) : Prop := match xs with
  | [] => r = none
  | x :: xs => ∃ v, r = some v ∧ VR h μ x v ∧ ItF h μ I tr xs
noncomputable def TrOk (σ : List O) (tr : Option (Nat × List V)) : Prop := match tr with
  | none => True
  | some (r, all) => σ[r]? = some (.list all)
theorem ItF.next {A : Around} {μ : List Addr} {s : Shared} {I : Addr} {tr : Option (Nat × List V)} {xs : List V} {Q : Option Value → Shared → Prop} {E : Value → Shared → Prop} (hh : A.handled = none) (G : HG c μ σ s.heap) (ht : TrOk σ tr) (X : Own c μ s.heap I) (it : ItF s.heap μ I tr xs)
    (kk : ∀ r h' tk, Chg I s.heap h' → NextR h' μ I tr xs r → (xs ≠ [] → Own c μ h' I) → Q r { s with heap := h', toks := tk }) : wpAny (model c.prog c.w) A (pyNext (.ref I)) Q E s := by
  have own : ∀ {h' : Heap} {o : Obj}, h'.get? I = some o → isIt o → Own c μ h' I := fun e1 e2 => ⟨⟨_, e1, e2⟩, X.off, X.new⟩
  cases it with
  | @lst a items k i xs h1 h2 h3 h4 =>
    have hne : a ≠ I := by
      rintro rfl
      obtain ⟨o, e1, e2, e3⟩ := h1
      rw [h3] at e1; cases e1; exact absurd e2 (show (Value.type _) ≠ Value.type _ by decide)
    cases xs with
    | nil => exact wpAny_pyNext_list_end hh h1 (isList_of h3) (by rw [← Array.getElem?_toList]; exact drop_nil (VRs.nil_inv h4)) fun h' he => kk none h' s.toks (fun b o hb e => he b o hb e) rfl fun q => absurd rfl q
    | cons x xs =>
      obtain ⟨v, ws, e1, e2, e3⟩ := VRs.uncons h4
      obtain ⟨d1, d2⟩ := drop_uncons e1
      refine wpAny_pyNext_list_item h1 (isList_of h3) (by rw [← Array.getElem?_toList]; exact d1) fun h' hi hs => ?_
      have C : Chg I s.heap h' := fun b o hb e => (hs.2 b hb).trans e
      have K := C.keep X
      refine kk (some v) h' s.toks C ⟨v, rfl, VR.mono K _ _ e2, .lst hi h2 ((hs.2 a hne).trans h3) (by rw [d2]; exact VRs.mono K _ _ e3)⟩ fun _ => ?_
      obtain ⟨o, g1, g2, g3⟩ := hi
      exact own g1 ⟨⟨_, g3⟩, by rw [g2]; decide⟩
  | @tup a items k i xs h1 h2 h3 h4 =>
    have hne : a ≠ I := by
      rintro rfl
      obtain ⟨o, e1, e2, e3⟩ := h1
      rw [h3] at e1; cases e1; exact absurd e2 (show (Value.type _) ≠ Value.type _ by decide)
    cases xs with
    | nil => exact wpAny_pyNext_tuple_end hh h1 (isTuple_of h3) (by rw [← Array.getElem?_toList]; exact drop_nil (VRs.nil_inv h4)) fun h' he => kk none h' s.toks (fun b o hb e => he b o hb e) rfl fun q => absurd rfl q
    | cons x xs =>
      obtain ⟨v, ws, e1, e2, e3⟩ := VRs.uncons h4
      obtain ⟨d1, d2⟩ := drop_uncons e1
      refine wpAny_pyNext_tuple_item h1 (isTuple_of h3) (by rw [← Array.getElem?_toList]; exact d1) fun h' hi hs => ?_
      have C : Chg I s.heap h' := fun b o hb e => (hs.2 b hb).trans e
      have K := C.keep X
      refine kk (some v) h' s.toks C ⟨v, rfl, VR.mono K _ _ e2, .tup hi h2 ((hs.2 a hne).trans h3) (by rw [d2]; exact VRs.mono K _ _ e3)⟩ fun _ => ?_
      obtain ⟨o, g1, g2, g3⟩ := hi
      exact own g1 ⟨⟨_, g3⟩, by rw [g2]; decide⟩
  | @trk r a i all xs h1 h2 h3 h4 =>
    subst h4
    obtain ⟨items, k, g1, g2⟩ := G.rel r (.list all) a ht h2
    have hne : a ≠ I := by
      rintro rfl
      exact X.off (List.mem_of_getElem? h2)
    have g3 := VRs.drop i g2
    rw [← h3] at g3
    cases xs with
    | nil => exact wpAny_pyNext_list_end hh h1 (isList_of g1) (by rw [← Array.getElem?_toList]; exact drop_nil (VRs.nil_inv g3)) fun h' he => kk none h' s.toks (fun b o hb e => he b o hb e) rfl fun q => absurd rfl q
    | cons x xs =>
      obtain ⟨v, ws, e1, e2, e3⟩ := VRs.uncons g3
      obtain ⟨d1, d2⟩ := drop_uncons e1
      refine wpAny_pyNext_list_item h1 (isList_of g1) (by rw [← Array.getElem?_toList]; exact d1) fun h' hi hs => ?_
      have C : Chg I s.heap h' := fun b o hb e => (hs.2 b hb).trans e
      have K := C.keep X
      have h5 : xs = all.drop (i + 1) := by rw [← List.drop_drop, ← h3]; rfl
      refine kk (some v) h' s.toks C ⟨v, rfl, VR.mono K _ _ e2, .trk hi h2 h5 rfl⟩ fun _ => ?_
      obtain ⟨o, g1, g2, g3⟩ := hi
      exact own g1 ⟨⟨_, g3⟩, by rw [g2]; decide⟩
  | @rng x left xs h1 h2 h3 =>
    by_cases hz : left ≤ 0
    · have : left = 0 := by (first | lia | omega)
      subst this
      subst h3
      exact wpAny_pyNext_range_end hh h1 (by (first | lia | omega)) fun h' he => kk none h' s.toks (fun b o hb e => he b o hb e) rfl fun q => absurd rfl q
    · obtain ⟨k, hk⟩ : ∃ k : Nat, left.toNat = k + 1 := ⟨left.toNat - 1, by (first | lia | omega)⟩
      rw [hk, List.range_succ_eq_map, List.map_cons, List.map_map] at h3
      subst h3
      refine wpAny_pyNext_range_item h1 (by (first | lia | omega)) fun h' hi hs => ?_
      have C : Chg I s.heap h' := fun b o hb e => (hs.2 b hb).trans e
      refine kk _ h' _ C ⟨_, rfl, by simpa using VR.int (h := h') (μ := μ) x s.toks, .rng hi (by (first | lia | omega)) ?_⟩ fun _ => own hi ⟨⟨_, rfl⟩, show (Value.type _) ≠ Value.type _ by decide⟩
      have : (left - 1).toNat = k := by (first | lia | omega)
      rw [this]
      refine List.map_congr_left fun j _ => ?_
      show V.int (x + ((j + 1 : Nat) : Int)) = V.int (x + 1 + (j : Int))
      congr 1
      (first | lia | omega)
end
end Mine
end

/-! part L11 -/
section
open PySem PySem.W PySem.Calls PyProof.Rows
set_option Elab.async false
set_option autoImplicit false
set_option linter.all false
namespace Mine

noncomputable def rangeV (a b : Int) : List V := (List.range (b - a).toNat).map fun (j : Nat) => V.int (a + (j : Int))
noncomputable def LsO (o : Option O) (K : List V → Prop) : Prop := match o with
  | some x => (match x with | .list xs => K xs | _ => False)
  | none => False
theorem LsO.inv {o : Option O} {K : List V → Prop} (h : LsO o K) : ∃ xs, o = some (.list xs) ∧ K xs := by
  cases o with
  | none => exact h.elim
  | some x => cases x with
    | list xs => exact ⟨xs, rfl, h⟩
    | _ => exact h.elim
/-- what an iteration over v goes through -/
noncomputable def ItemsOk (σ : List O) (v : V) (k : List V → Option (Nat × List V) → Prop) : Prop :=
  match v with
  | .tup xs => k xs none
  | .lst xs => k xs none
  | .rng a b => (-(2 ^ 62) ≤ a ∧ a < 2 ^ 62 ∧ -(2 ^ 62) ≤ b ∧ b < 2 ^ 62) ∧ k (rangeV a b) none
  | .ref r => LsO (σ[r]?) fun xs => k xs (some (r, xs))
  | _ => False

section
variable {c : Cx} {n : Nat} {sc : Scope} {m : Loc} {σ : List O}

theorem iter_sound {A : Around} {v : V} {rv : Value} {μ : List Addr} {s : Shared} {k : List V → Option (Nat × List V) → Prop} {Q : Value → Shared → Prop} {E : Value → Shared → Prop}
    (hG : HG c μ σ s.heap) (hv : VR s.heap μ v rv) (h : ItemsOk σ v k)
    (kk : ∀ I h' tk xs tr, k xs tr → TrOk σ tr → (∀ a o, s.heap.get? a = some o → h'.get? a = some o) → s.heap.get? I = none → Own c μ h' I → ItF h' μ I tr xs → Q (.ref I) { s with heap := h', toks := tk }) :
    wpAny (model c.prog c.w) A (pyIter rv) Q E s := by
  have nw : ∀ (cls : String) (d : Array Value), cls ≠ "range" → Own c μ (s.heap.push { cls := .type cls, data := .fields d }) s.heap.objs.size := fun cls d hc => ⟨⟨_, Heap.get?_push_size _ rfl, ⟨_, rfl⟩, fun e => hc (by injection e)⟩, hG.size_off, hG.fresh (get_size _)⟩
  cases v with
  | tup xs =>
    obtain ⟨a, items, q, rfl, h1, h2, h3⟩ := hv.tup_inv
    refine wpAny_pyIter_tuple (isTuple_of h2) ?_
    exact kk _ _ s.toks _ _ h trivial (fun _ _ e => Heap.get?_push_of_some _ e) (get_size _) (nw _ _ (by decide)) (.tup (i := 0) ⟨_, Heap.get?_push_size _ rfl, rfl, rfl⟩ h1 (Heap.get?_push_of_some _ h2) ((Step.push _).vrs h3))
  | lst xs =>
    obtain ⟨a, items, q, rfl, h1, h2, h3⟩ := hv.lst_inv
    refine wpAny_pyIter_list (isList_of h2) ?_
    exact kk _ _ s.toks _ _ h trivial (fun _ _ e => Heap.get?_push_of_some _ e) (get_size _) (nw _ _ (by decide)) (.lst (i := 0) ⟨_, Heap.get?_push_size _ rfl, rfl, rfl⟩ h1 (Heap.get?_push_of_some _ h2) ((Step.push _).vrs h3))
  | rng x y =>
    obtain ⟨⟨b1, b2, b3, b4⟩, h⟩ := h
    obtain ⟨r, t, u, w, rfl, h1, h2⟩ := hv.rng_inv
    refine wpAny_pyIter_range h2 (small_one b1 b2 b3 b4) ?_
    have hz := rangeSize_one x y
    refine kk _ _ s.toks _ _ h trivial (fun _ _ e => Heap.get?_push_of_some _ e) (get_size _) (nw _ _ (by decide)) (.rng (x := x) (left := Builtin.Range.rangeSize x y 1) (Heap.get?_push_size _ rfl) (by rw [hz]; split <;> (first | lia | omega)) ?_)
    unfold rangeV
    have : (Builtin.Range.rangeSize x y 1).toNat = (y - x).toNat := by rw [hz]; split <;> (first | lia | omega)
    rw [this]
  | ref r =>
    obtain ⟨xs, hx, h⟩ := LsO.inv h
    obtain ⟨a, rfl, ha⟩ := hv.ref_inv
    obtain ⟨items, q, g1, g2⟩ := hG.rel _ _ _ hx ha
    refine wpAny_pyIter_list (isList_of g1) ?_
    exact kk _ _ s.toks _ _ h hx (fun _ _ e => Heap.get?_push_of_some _ e) (get_size _) (nw _ _ (by decide)) (.trk (i := 0) ⟨_, Heap.get?_push_size _ rfl, rfl, rfl⟩ ha rfl rfl)
  | _ => exact h.elim

/-- the owned tuple of zip and its like: there is none -/
theorem ItF.notOwned {A : Around} {μ : List Addr} {s : Shared} {I : Addr} {tr : Option (Nat × List V)} {xs : List V} {target : Expr} {v : Value} {Q : Unit → Shared → Prop} {E : Value → Shared → Prop}
    (it : ItF s.heap μ I tr xs) (h : Q () s) : wpAny (model c.prog c.w) A (letOwnedTupleGo target (.ref I) v) Q E s := by
  have key : ∃ o cls vs, s.heap.get? I = some o ∧ o.cls = .type cls ∧ o.data = .fields vs ∧ ["enumerate", "zip", "dict_itemiterator", "dict_reverseitemiterator", "odict_iterator", "itertools.zip_longest", "itertools.pairwise"].contains cls = false := by
    cases it with
    | lst h1 _ _ _ => obtain ⟨o, a, b, d⟩ := h1; exact ⟨o, _, _, a, b, d, by decide +kernel⟩
    | tup h1 _ _ _ => obtain ⟨o, a, b, d⟩ := h1; exact ⟨o, _, _, a, b, d, by decide +kernel⟩
    | trk h1 _ _ _ => obtain ⟨o, a, b, d⟩ := h1; exact ⟨o, _, _, a, b, d, by decide +kernel⟩
    | rng h1 _ _ => exact ⟨_, _, _, h1, rfl, rfl, by decide +kernel⟩
  obtain ⟨⟨oc, od, oda, osl⟩, cls, vs, h1, h2, h3, h4⟩ := key
  simp only at h2 h3
  subst h2; subst h3
  have fin : wpAny (model c.prog c.w) A (do
      let (.ref r, .ref a) := (Value.ref I, v) | return
      let o ← load r
      match o.cls, o.data with
      | .type n, .fields vs =>
        if ["enumerate", "zip", "dict_itemiterator", "dict_reverseitemiterator", "odict_iterator", "itertools.zip_longest", "itertools.pairwise"].contains n && vs[0]? == some (rawInt a) then
          rule "for.unpacks-the-owned-tuple"
          updateField r 0 .none
      | _, _ => pure ()) Q E s := by
    cases v with
    | ref a =>
      refine wpAny_bind (wpAny_load h1 ?_)
      simp only [h4, Bool.false_and]
      exact wpAny_pure h
    | _ => exact wpAny_pure h
  unfold letOwnedTupleGo
  split
  · exact fin
  · exact fin
  · exact wpAny_pure h

noncomputable def ForGo (c : Cx) (n : Nat) (sc : Scope) (target : Expr) (body : List Stmt) (tr : Option (Nat × List V)) (Φ : Fl → Loc → List O → Prop) : List V → Loc → List O → Prop
  | [], m, σ => TrOk σ tr ∧ Φ .next m σ
  | x :: xs, m, σ => TrOk σ tr ∧ ∃ m', asg1 sc target x m = some m' ∧ WpS c n sc m' σ body fun fl m'' σ' => match fl with
    | .next => ForGo c n sc target body tr Φ xs m'' σ'
    | .cont => ForGo c n sc target body tr Φ xs m'' σ'
    | .brk => Φ .next m'' σ'
    | .ret v => Φ (.ret v) m'' σ'
theorem ForGo.tr {target : Expr} {body : List Stmt} {tr : Option (Nat × List V)} {Φ : Fl → Loc → List O → Prop} : ∀ {xs : List V} {m : Loc} {σ : List O}, ForGo c n sc target body tr Φ xs m σ → TrOk σ tr
  | [], _, _, h => h.1
  | _ :: _, _, _, h => h.1

noncomputable abbrev forK (c : Cx) (n : Nat) (sc : Scope) (m : Loc) (target : Expr) (body : List Stmt) (Φ : Fl → Loc → List O → Prop) : V → List O → Prop := fun v σ₁ => ItemsOk σ₁ v fun xs tr => ForGo c n sc target body tr Φ xs m σ₁
theorem WpX_for {target iter : Expr} {body : List Stmt} {pos : Pos} {Φ : Fl → Loc → List O → Prop} (h : WpE c n sc m σ iter (forK c n sc m target body Φ))
    (hs : ∀ env x, foldedSetIterable iter env x = pure x := by intro _ _; rfl) : WpX c n sc m σ (.For target iter body [] pos) Φ := by
  intro A env μ s Q E hR hG hF kk
  refine wpAny_For (h A env μ s _ E hR hG hF fun rv v σ₁ μ₁ h₁ tk₁ hv S₁ G₁ V₁ => ?_) (hs env)
  have F₁ := hF.step S₁
  refine iter_sound (s := { s with heap := h₁, toks := tk₁ }) G₁ V₁ hv fun I h₂ tk₂ xs tr hgo htr hk hI own it => ?_
  have S₂ : Step [] μ₁ h₁ μ₁ h₂ := Step.of_keeps hk
  refine codeAny_forLoop_any (fun k s' => ∃ xs m' σ' μ' h' tk, s' = { s with heap := h', toks := tk } ∧ k = xs.length ∧ ForGo c n sc target body tr Φ xs m' σ' ∧ HG c μ' σ' h' ∧ FG c sc env m' μ' h' ∧ Step (Wof env) μ₁ h₁ μ' h' ∧ Own c μ' h' I ∧ ItF h' μ' I tr xs)
    (fun k s' hI' => ?_) xs.length ⟨xs, m, σ₁, μ₁, h₂, tk₂, rfl, rfl, hgo, G₁.keeps hk, F₁.step S₂, S₂.widen, own, it⟩
  obtain ⟨xs, m', σ', μ', h', tk, rfl, rfl, go, G, F, S, X, it⟩ := hI'
  refine ItF.next (s := { s with heap := h', toks := tk }) hR.hand G go.tr X it fun r h₃ tk₃ C nr ow => ?_
  have G₃ := C.hg X G
  have F₃ := C.fg X F
  have S₃ : Step (Wof env) μ₁ h₁ μ' h₃ := S.chg C hI
  cases xs with
  | nil =>
    cases nr
    refine wpAny_execs_nil ?_
    exact kk .next .next m' σ' μ' h₃ tk₃ go.2 (S₁.widen.trans S₃) G₃ F₃ rfl
  | cons x xs =>
    obtain ⟨v', rfl, V, it'⟩ := nr
    have X' := ow (by simp)
    obtain ⟨_, m₁, ha, hb⟩ := go
    refine it'.notOwned ?_
    refine asg1_sound hR.hand target x m' m₁ { s with heap := h₃, toks := tk₃ } v' _ ha G₃ F₃ V fun h₄ tk₄ S₄ G₄ F₄ => ?_
    have X₄ := X'.step S₄ (X'.notW F₃)
    have it₄ := it'.keep (S₄.keeps F₃.store) fun o e => S₄.keep I o e (X'.notW F₃) X'.off
    refine hb A env μ' { s with heap := h₄, toks := tk₄ } _ _ hR G₄ F₄ fun f fl m₂ σ₂ μ₂ h₅ tk₅ hf S₅ G₅ F₅ V₅ => ?_
    have SS := (S₃.trans S₄).trans S₅
    have next : ForGo c n sc target body tr Φ xs m₂ σ₂ → ∃ k, k < (x :: xs).length ∧ ∃ xs' m' σ' μ' h' tk, ({ s with heap := h₅, toks := tk₅ } : Shared) = { s with heap := h', toks := tk } ∧ k = xs'.length ∧ ForGo c n sc target body tr Φ xs' m' σ' ∧ HG c μ' σ' h' ∧ FG c sc env m' μ' h' ∧ Step (Wof env) μ₁ h₁ μ' h' ∧ Own c μ' h' I ∧ ItF h' μ' I tr xs' := fun hn =>
      ⟨xs.length, by simp, xs, m₂, σ₂, μ₂, h₅, tk₅, rfl, rfl, hn, G₅, F₅, SS, X₄.step S₅ (X₄.notW F₄), it₄.keep (S₅.keeps F₄.store) fun o e => S₅.keep I o e (X₄.notW F₄) X₄.off⟩
    cases fl with
    | next => cases V₅; exact next hf
    | cont => cases V₅; exact next hf
    | brk => cases V₅; exact kk .next .next m₂ σ₂ μ₂ h₅ tk₅ hf (S₁.widen.trans SS) G₅ F₅ rfl
    | ret v => obtain ⟨r', rfl, hr⟩ := V₅; exact kk _ (.ret v) m₂ σ₂ μ₂ h₅ tk₅ hf (S₁.widen.trans SS) G₅ F₅ ⟨r', rfl, hr⟩

/-- a loop while a test holds; k counts its turns -/
noncomputable def WhGo (c : Cx) (n : Nat) (sc : Scope) (test : Expr) (body : List Stmt) (Φ : Fl → Loc → List O → Prop) : Nat → Loc → List O → Prop
  | 0, _, _ => False
  | k + 1, m, σ => WpT c n sc m σ test fun b σ₁ => if b then WpS c n sc m σ₁ body fun fl m'' σ' => match fl with
      | .next => WhGo c n sc test body Φ k m'' σ'
      | .cont => WhGo c n sc test body Φ k m'' σ'
      | .brk => Φ .next m'' σ'
      | .ret v => Φ (.ret v) m'' σ'
    else Φ .next m σ₁
theorem WpX_while {test : Expr} {body : List Stmt} {pos : Pos} {Φ : Fl → Loc → List O → Prop} (k : Nat) (h : WhGo c n sc test body Φ k m σ) : WpX c n sc m σ (.While test body [] pos) Φ := by
  intro A env μ s Q E hR hG hF kk
  refine wpAny_While ?_
  refine codeAny_whileLoop (fun k s' => ∃ m' σ' μ' h' tk, s' = { s with heap := h', toks := tk } ∧ WhGo c n sc test body Φ k m' σ' ∧ HG c μ' σ' h' ∧ FG c sc env m' μ' h' ∧ Step (Wof env) μ s.heap μ' h')
    (fun k s' hI' => ?_) k ⟨m, σ, μ, s.heap, s.toks, rfl, h, hG, hF, Step.refl _ _ _⟩
  obtain ⟨m', σ', μ', h', tk, rfl, go, G, F, S⟩ := hI'
  cases k with
  | zero => exact go.elim
  | succ k =>
    refine go A env μ' { s with heap := h', toks := tk } _ _ hR G F fun r b σ₁ μ₁ h₁ tk₁ hb S₁ G₁ V => ?_
    subst V
    have F₁ := F.step S₁
    have S₂ := S.trans S₁.widen
    cases b with
    | false =>
      simp only [Bool.false_eq_true, if_false] at hb ⊢
      refine wpAny_execs_nil ?_
      exact kk .next .next m' σ₁ μ₁ h₁ tk₁ hb S₂ G₁ F₁ rfl
    | true =>
      simp only [if_true] at hb ⊢
      refine hb A env μ₁ { s with heap := h₁, toks := tk₁ } _ _ hR G₁ F₁ fun f fl m₂ σ₂ μ₂ h₅ tk₅ hf S₅ G₅ F₅ V₅ => ?_
      have SS := S₂.trans S₅
      cases fl with
      | next => cases V₅; exact ⟨k, Nat.lt_succ_self k, m₂, σ₂, μ₂, h₅, tk₅, rfl, hf, G₅, F₅, SS⟩
      | cont => cases V₅; exact ⟨k, Nat.lt_succ_self k, m₂, σ₂, μ₂, h₅, tk₅, rfl, hf, G₅, F₅, SS⟩
      | brk => cases V₅; exact kk .next .next m₂ σ₂ μ₂ h₅ tk₅ hf SS G₅ F₅ rfl
      | ret v => obtain ⟨r', rfl, hr⟩ := V₅; exact kk _ (.ret v) m₂ σ₂ μ₂ h₅ tk₅ hf SS G₅ F₅ ⟨r', rfl, hr⟩
end
end Mine
end

/-! part L12 -/
section
open PySem PySem.W PySem.Calls PyProof.Rows
set_option Elab.async false
set_option autoImplicit false
set_option linter.all false
namespace Mine

mutual
/-- the tracked objects that a value speaks of have ids below k -/
noncomputable def rb (k : Nat) : V → Bool
  | .none => true
  | .bool _ => true
  | .int _ => true
  | .str _ => true
  | .tup xs => rbs k xs
  | .lst xs => rbs k xs
  | .ref n => decide (n < k)
  | .inst _ n => decide (n < k)
  | .rng _ _ => true
noncomputable def rbs (k : Nat) : List V → Bool
  | [] => true
  | x :: xs => rb k x && rbs k xs
end
noncomputable def rbO (k : Nat) : O → Bool
  | .list xs => rbs k xs
  | .idict es => rbs k (es.map (·.2))
  | .sdict es => rbs k (es.map (·.2))
  | .tdict es => rbs k (es.map (·.2))
  | .junk => true

theorem lt_of_idx {μ : List Addr} {n : Nat} {a : Addr} (e : μ[n]? = some a) : n < μ.length := (List.getElem?_eq_some_iff.mp e).1
mutual
theorem VR.rb {h : Heap} {μ : List Addr} : ∀ (x : V) (v : Value), VR h μ x v → rb μ.length x = true
  | .none, _, _ => rfl
  | .bool _, _, _ => rfl
  | .int _, _, _ => rfl
  | .str _, _, _ => rfl
  | .rng _ _, _, _ => rfl
  | .tup xs, v, e => by
    obtain ⟨_, items, _, _, _, _, h4⟩ := e.tup_inv
    exact VRs.rb xs _ h4
  | .lst xs, v, e => by
    obtain ⟨_, items, _, _, _, _, h4⟩ := e.lst_inv
    exact VRs.rb xs _ h4
  | .ref n, v, e => by
    obtain ⟨_, _, h⟩ := e.ref_inv
    exact decide_eq_true (lt_of_idx h)
  | .inst _ n, v, e => by
    obtain ⟨_, _, _, _, _, h⟩ := e.inst_inv
    exact decide_eq_true (lt_of_idx h)
theorem VRs.rb {h : Heap} {μ : List Addr} : ∀ (xs : List V) (vs : List Value), VRs h μ xs vs → rbs μ.length xs = true
  | [], _, _ => rfl
  | x :: xs, _, e => by
    obtain ⟨v, ws, _, h2, h3⟩ := VRs.uncons e
    exact Bool.and_eq_true_iff.mpr ⟨VR.rb x v h2, VRs.rb xs ws h3⟩
end
theorem OR.rb {c : Cx} {h : Heap} {μ : List Addr} {x : O} {a : Addr} (e : OR c h μ x a) : rbO μ.length x = true := by
  cases x with
  | list xs => obtain ⟨_, _, _, h2⟩ := e; exact VRs.rb _ _ h2
  | idict es => obtain ⟨_, _, _, h2⟩ := e; exact VRs.rb _ _ h2
  | sdict es => obtain ⟨_, _, _, h2⟩ := e; exact VRs.rb _ _ h2
  | tdict es => obtain ⟨_, _, _, _, _, _, _, _, h2⟩ := e; exact VRs.rb _ _ h2
  | junk => rfl

mutual
theorem VR.drop {h : Heap} {μ ν : List Addr} : ∀ (x : V) (v : Value), VR h (μ ++ ν) x v → Mine.rb μ.length x = true → VR h μ x v
  | .none, _, e, _ => by exact e
  | .bool _, _, e, _ => by exact e
  | .int _, _, e, _ => by exact e
  | .str _, _, e, _ => by exact e
  | .rng _ _, _, e, _ => by
    obtain ⟨r, t, u, w, h1, h2, h3⟩ := e.rng_inv
    exact ⟨r, t, u, w, h1, fun hm => h2 (List.mem_append_left _ hm), h3⟩
  | .tup xs, v, e, k => by
    obtain ⟨a, items, n, h1, h2, h3, h4⟩ := e.tup_inv
    exact ⟨a, items, n, h1, fun hm => h2 (List.mem_append_left _ hm), h3, VRs.dropR xs _ h4 k⟩
  | .lst xs, v, e, k => by
    obtain ⟨a, items, n, h1, h2, h3, h4⟩ := e.lst_inv
    exact ⟨a, items, n, h1, fun hm => h2 (List.mem_append_left _ hm), h3, VRs.dropR xs _ h4 k⟩
  | .ref n, v, e, k => by
    obtain ⟨a, h1, h2⟩ := e.ref_inv
    rw [List.getElem?_append_left (of_decide_eq_true k)] at h2
    exact ⟨a, h1, h2⟩
  | .inst _ n, v, e, k => by
    obtain ⟨a, d, h1, h2, h3, h4⟩ := e.inst_inv
    rw [List.getElem?_append_left (of_decide_eq_true k)] at h4
    exact ⟨a, d, h1, fun hm => h2 (List.mem_append_left _ hm), h3, h4⟩
theorem VRs.dropR {h : Heap} {μ ν : List Addr} : ∀ (xs : List V) (vs : List Value), VRs h (μ ++ ν) xs vs → Mine.rbs μ.length xs = true → VRs h μ xs vs
  | [], _, e, _ => by rw [VRs.nil_inv e]; exact VRs.nil
  | x :: xs, _, e, k => by
    obtain ⟨v, ws, rfl, h2, h3⟩ := VRs.uncons e
    obtain ⟨k1, k2⟩ := Bool.and_eq_true_iff.mp k
    exact VRs.cons (VR.drop x v h2 k1) (VRs.dropR xs ws h3 k2)
end
theorem OR.drop {c : Cx} {h : Heap} {μ ν : List Addr} {x : O} {a : Addr} (e : OR c h (μ ++ ν) x a) (k : rbO μ.length x = true) : OR c h μ x a := by
  cases x with
  | list xs => obtain ⟨i, n, h1, h2⟩ := e; exact ⟨i, n, h1, VRs.dropR _ _ h2 k⟩
  | idict es => obtain ⟨kvs, h1, h2, h3⟩ := e; exact ⟨kvs, h1, h2, VRs.dropR _ _ h3 k⟩
  | sdict es => obtain ⟨kvs, h1, h2, h3⟩ := e; exact ⟨kvs, h1, h2, VRs.dropR _ _ h3 k⟩
  | tdict es =>
    obtain ⟨xs, ds, ep, h1, h2, h3, h4, h5, h6⟩ := e
    refine ⟨xs, ds, ep, h1, h2, fun x hx => ⟨VR.drop _ _ (h3 x hx).1 ?_, (h3 x hx).2⟩, h4, h5, VRs.dropR _ _ h6 k⟩
    have : ∀ l : List Int, rbs μ.length (l.map V.int) = true := fun l => by
      induction l with
      | nil => rfl
      | cons _ _ ih => exact Bool.and_eq_true_iff.mpr ⟨rfl, ih⟩
    obtain ⟨⟨n1, l1, l2, k1⟩, x2⟩ := x
    have an : ∀ {a b : Bool}, a = true → b = true → (a && b) = true := fun p q => by rw [p, q]; rfl
    exact an (an (this l1) (an (this l2) rfl)) rfl
  | junk => exact e

/-- what was tracked of late is let go -/
theorem HG.drop {c : Cx} {μ ν : List Addr} {σ τ : List O} {h : Heap} (G : HG c (μ ++ ν) (σ ++ τ) h) (hl : σ.length = μ.length) (hk : ∀ x ∈ σ, rbO μ.length x = true) : HG c μ σ h := by
  refine ⟨G.ok, G.base, fun a ha => G.new a (List.mem_append_left _ ha), (List.nodup_append.mp G.nodup).1, hl, fun i x a e1 e2 => ?_⟩
  have hi := lt_of_idx e2
  refine (G.rel i x a ?_ ?_).drop (hk x (List.mem_of_getElem? e1))
  · rw [List.getElem?_append_left (by (first | lia | omega))]; exact e1
  · rw [List.getElem?_append_left hi]; exact e2
theorem Step.drop {W μ ν : List Addr} {h h' : Heap} (S : Step W μ h (μ ++ ν) h') : Step W μ h μ h' :=
  ⟨S.alive, ⟨[], by simp, fun _ h => nomatch h⟩, S.keep⟩
theorem HG.rbO {c : Cx} {μ : List Addr} {σ : List O} {h : Heap} (G : HG c μ σ h) : ∀ x ∈ σ, rbO σ.length x = true := by
  intro x hx
  obtain ⟨i, hi, rfl⟩ := List.getElem_of_mem hx
  obtain ⟨a, _, h2⟩ := G.at (List.getElem?_eq_getElem hi)
  rw [G.len]; exact h2.rb

/-- σ₁ is σ, changed here and there, but only by what σ could hold -/
noncomputable def Within (σ σ₁ : List O) : Prop := σ₁.length = σ.length ∧ ∀ x ∈ σ₁, x ∈ σ ∨ rbO σ.length x = true
theorem Within.refl (σ : List O) : Within σ σ := ⟨rfl, fun _ h => .inl h⟩

section
variable {c : Cx} {n : Nat} {σ : List O}
/-- a call's own tracked objects are let go as it ends -/
theorem WpC_drop {f : Value} {xs : List V} {Φ : V → List O → Prop} (h : WpC c n f σ xs fun v σ' => ∃ σ₁ τ, σ' = σ₁ ++ τ ∧ Within σ σ₁ ∧ rb σ.length v = true ∧ Φ v σ₁) : WpC c n f σ xs Φ := by
  intro A μ s vs Q E hR hG hv kk
  refine h A μ s vs Q E hR hG hv fun r v σ' μ' h' tk hΦ S G V => ?_
  obtain ⟨σ₁, τ, rfl, ⟨w1, w2⟩, hb, hΦ⟩ := hΦ
  have hs := S
  obtain ⟨ν, rfl, _⟩ := S.grow
  have hr := hG.rbO
  have hl := hG.len
  refine kk r v σ₁ μ h' tk hΦ hs.drop (G.drop (by (first | lia | omega)) fun x hx => ?_) (VR.drop _ _ V (by rw [← hl]; exact hb))
  rw [← hl]
  rcases w2 x hx with q | q
  · exact hr x q
  · exact q
end
end Mine
end

/-! part L13 -/
section
open PySem PySem.W PySem.Calls PyProof.Rows
set_option Elab.async false
set_option autoImplicit false
set_option linter.all false
namespace Mine

/-! ### the frame of a comprehension -/
noncomputable def freesOf (names : List (Str × NameKind)) : List Str := (names.filter fun p => decide (p.2 = .free)).map (·.1)
noncomputable abbrev frees (scope : Scope) : List Str := freesOf scope.names
noncomputable def relabK (sc : Scope) (p : Str × NameKind) : Str × NameKind := if (p.2 == .free && sc.kind == .function && sc.names.lookup p.1 == some .cell) then (p.1, .cell) else (p.1, p.2)
noncomputable def relab (sc scope : Scope) : Scope := { scope with names := scope.names.map (relabK sc) }
theorem relabel_eq {sc scope : Scope} {env : Env} (h : env.scope = sc) : relabel scope env = relab sc scope := by subst h; rfl
theorem relabK_key (sc : Scope) (p : Str × NameKind) : (relabK sc p).1 = p.1 := by unfold relabK; split <;> rfl
/-- what the names of a comprehension's frame hold at first -/
noncomputable def compLoc (scope : Scope) (m : Loc) : Loc := fun x => if x ∈ frees scope then m x else none

theorem mem_frees {names : List (Str × NameKind)} {x : Str} : x ∈ freesOf names ↔ (x, NameKind.free) ∈ names := by
  unfold freesOf
  rw [List.mem_map]
  constructor
  · rintro ⟨⟨a, b⟩, h1, rfl⟩
    obtain ⟨h2, h3⟩ := List.mem_filter.mp h1
    have : b = .free := by simpa using h3
    subst this; exact h2
  · intro h
    exact ⟨_, List.mem_filter.mpr ⟨h, by simp⟩, rfl⟩

theorem closure_fold {env : Env} : ∀ (names : List (Str × NameKind)) (cs : List (Str × Addr)), (∀ x ∈ freesOf names, ∃ k, env.cells.lookup x = some k) →
    ∃ cl : List (Str × Addr), (forIn (m := Sem) names cs fun x r => if (x.2 == NameKind.free) = true then (do let k ← cellOf env x.1; pure (ForInStep.yield ((x.1, k) :: r))) else pure (ForInStep.yield r)) = pure (cl ++ cs) ∧
      (∀ p ∈ cl, env.cells.lookup p.1 = some p.2) ∧ cl.map (·.1) = (freesOf names).reverse
  | [], cs, _ => ⟨[], rfl, (fun _ h => nomatch h), rfl⟩
  | (n, kd) :: names, cs, h => by
    have h' : ∀ x ∈ freesOf names, ∃ k, env.cells.lookup x = some k := fun x hx => h x (mem_frees.mpr (List.mem_cons_of_mem _ (mem_frees.mp hx)))
    by_cases hk : kd = .free
    · subst hk
      obtain ⟨k, hk'⟩ := h n (mem_frees.mpr List.mem_cons_self)
      obtain ⟨cl, e1, e2, e3⟩ := closure_fold names ((n, k) :: cs) h'
      refine ⟨cl ++ [(n, k)], ?_, ?_, ?_⟩
      · rw [List.forIn_cons]
        have : cellOf env n = pure k := by unfold cellOf; rw [hk']
        show ((cellOf env n >>= fun k => pure (ForInStep.yield ((n, k) :: cs))) >>= _) = _
        rw [this, pure_bind, pure_bind]
        show (forIn names ((n, k) :: cs) _) = _
        rw [e1]; simp
      · intro p hp
        rcases List.mem_append.mp hp with hp | hp
        · exact e2 p hp
        · rw [List.mem_singleton.mp hp]; exact hk'
      · show _ = (n :: freesOf names).reverse
        rw [List.map_append, e3, List.reverse_cons]; rfl
    · obtain ⟨cl, e1, e2, e3⟩ := closure_fold names cs h'
      have hb : (kd == NameKind.free) = false := by simpa using hk
      refine ⟨cl, ?_, e2, ?_⟩
      · rw [List.forIn_cons]
        simp only [hb, Bool.false_eq_true, if_false, pure_bind]
        exact e1
      · have : freesOf ((n, kd) :: names) = freesOf names := by
          unfold freesOf; rw [List.filter_cons_of_neg (by simpa using hk)]
        rw [this]; exact e3
theorem closure_of {scope : Scope} {env : Env} (h : ∀ x ∈ frees scope, ∃ k, env.cells.lookup x = some k) :
    ∃ cl, closureFor scope env = pure cl ∧ (∀ p ∈ cl, env.cells.lookup p.1 = some p.2) ∧ cl.map (·.1) = (frees scope).reverse := by
  obtain ⟨cl, e1, e2, e3⟩ := closure_fold (env := env) scope.names [] h
  refine ⟨cl, ?_, e2, e3⟩
  rw [List.append_nil] at e1
  simp only [closureFor]
  show (forIn scope.names [] _ >>= fun cs => pure cs) = _
  rw [bind_pure]
  exact e1

/-- what must hold of a comprehension's names (all of it plain to see) -/
structure CompOk (sc scope : Scope) : Prop where
  kind : scope.kind = .function
  nocell : (scope.names.all fun p => decide (p.2 ≠ .cell)) = true
  nd : (scope.names.map (·.1)).Nodup
  free : ((frees scope).all fun x => decide (sc.names.lookup x = some .cell) || decide (sc.names.lookup x = some .free)) = true
theorem relab_mem {sc scope : Scope} {x : Str} {k : NameKind} (h : (relab sc scope).names.lookup x = some k) : ∃ k', (x, k') ∈ scope.names ∧ relabK sc (x, k') = (x, k) := by
  have h1 : (x, k) ∈ scope.names.map (relabK sc) := mem_of_lookup h
  obtain ⟨⟨a, b⟩, h2, h3⟩ := List.mem_map.mp h1
  have : a = x := by have := congrArg Prod.fst h3; rwa [relabK_key] at this
  subst this
  exact ⟨b, h2, h3⟩
theorem relab_local {sc scope : Scope} {x : Str} (h : (relab sc scope).names.lookup x = some .local) : (x, NameKind.local) ∈ scope.names := by
  obtain ⟨k, h1, h2⟩ := relab_mem h
  unfold relabK at h2
  split at h2
  · cases h2
  · cases h2; exact h1
theorem relab_free {sc scope : Scope} (O : CompOk sc scope) {x : Str} (h : (relab sc scope).names.lookup x = some .cell ∨ (relab sc scope).names.lookup x = some .free) : x ∈ frees scope := by
  have key : ∀ k, (k = NameKind.cell ∨ k = .free) → (relab sc scope).names.lookup x = some k → x ∈ frees scope := by
    intro k hk h
    obtain ⟨k', h1, h2⟩ := relab_mem h
    unfold relabK at h2
    split at h2
    · rename_i hc
      have : k' = .free := by simp at hc; exact hc.1.1
      subst this
      exact mem_frees.mpr h1
    · cases h2
      rcases hk with rfl | rfl
      · have := List.all_eq_true.mp O.nocell _ h1
        simp at this
      · exact mem_frees.mpr h1
  rcases h with h | h
  · exact key _ (.inl rfl) h
  · exact key _ (.inr rfl) h

theorem FG.comp {c : Cx} {sc scope : Scope} {env : Env} {m : Loc} {μ : List Addr} {h h' : Heap} {C : Addr} {cl : List (Str × Addr)} (F : FG c sc env m μ h) (O : CompOk sc scope)
    (hcl : ∀ p ∈ cl, env.cells.lookup p.1 = some p.2) (hcn : cl.map (·.1) = (frees scope).reverse) (hk : ∀ a o, h.get? a = some o → h'.get? a = some o) (hC : h'.Ns C fun _ => none) (hCn : c.h₀.get? C = none) (hCo : C ∉ μ) :
    FG c (relab sc scope) (compEnvC scope cl C env) (compLoc scope m) μ h' := by
  have S := Step.of_keeps (μ := μ) hk
  have F' := F.step S
  have mem : ∀ p ∈ cl, p ∈ env.cells := fun p hp => mem_of_lookup (hcl p hp)
  have fnd : (frees scope).Nodup := by
    have : (frees scope).Sublist (scope.names.map (·.1)) := by unfold frees freesOf; exact (List.filter_sublist).map _
    exact O.nd.sublist this
  have clnd : (cl.map (·.1)).Nodup := by rw [hcn]; exact List.pairwise_reverse.mpr (List.Pairwise.imp (fun h => Ne.symm h) fnd)
  refine ⟨relabel_eq F.scope, O.kind, F.glob, F.blt, hCn, hCo, ⟨_, hC, fun x v hl hm => ?_⟩, fun p hp => F'.cell p (mem p hp), ?_, fun x hx => ?_⟩
  · exfalso
    unfold compLoc at hm
    split at hm
    · rename_i hf
      have h1 := relab_local hl
      have h2 := mem_frees.mp hf
      have a := lookup_nodup O.nd h1
      have b := lookup_nodup O.nd h2
      simp only at a b
      rw [a] at b; cases b
    · cases hm
  · -- distinct names, distinct cells
    have key : ∀ l : List (Str × Addr), (l.map (·.1)).Nodup → (∀ p ∈ l, p ∈ env.cells) → l.Pairwise fun x y => x.2 ≠ y.2 := by
      intro l
      induction l with
      | nil => intro _ _; exact List.Pairwise.nil
      | cons p l ih =>
        intro hn hm
        rw [List.map_cons, List.nodup_cons] at hn
        refine List.Pairwise.cons (fun q hq e => hn.1 ?_) (ih hn.2 fun q hq => hm q (List.mem_cons_of_mem _ hq))
        have := name_of_addr F.apart (n := q.1) (n' := p.1) (c := p.2) (by rw [e]; exact hm q (List.mem_cons_of_mem _ hq)) (hm p List.mem_cons_self)
        rw [← this]; exact List.mem_map_of_mem hq
    exact key cl clnd mem
  · have hf := relab_free O hx
    obtain ⟨p, hp, hpx⟩ := List.mem_map.mp (show x ∈ cl.map (·.1) by rw [hcn]; exact List.mem_reverse.mpr hf)
    subst hpx
    have h1 := lookup_nodup clnd hp
    have hsc : sc.names.lookup p.1 = some .cell ∨ sc.names.lookup p.1 = some .free := by
      have := List.all_eq_true.mp O.free _ hf
      simpa using this
    obtain ⟨k, h2, h3⟩ := F'.cls p.1 hsc
    have : k = p.2 := by rw [hcl p hp] at h2; cases h2; rfl
    subst this
    refine ⟨p.2, h1, fun v hv => h3 v ?_⟩
    unfold compLoc at hv
    rw [if_pos hf] at hv
    exact hv

/-- a store that stands apart is changed -/
theorem HG.store {c : Cx} {μ : List Addr} {σ : List O} {h h' : Heap} {C : Addr} (G : HG c μ σ h) (hs : Heap.SameBut C h h') (h1 : C ∉ μ) (h2 : c.h₀.get? C = none) (h3 : ∃ o, h.get? C = some o ∧ isStore o) : HG c μ σ h' := by
  obtain ⟨oC, h3, h4⟩ := h3
  have K : Keep μ h μ h' := ⟨⟨[], by simp, fun _ h => nomatch h⟩, fun a o e _ hv => (hs.2 a (by rintro rfl; rw [h3] at e; cases e; exact h4.not hv)).trans e⟩
  exact ⟨G.ok, fun a o e => (hs.2 a (by rintro rfl; rw [h2] at e; cases e)).trans (G.base a o e), G.new, G.nodup, G.len, fun i x a e1 e2 => (G.rel i x a e1 e2).mono K fun o e => (hs.2 a (by rintro rfl; exact h1 (List.mem_of_getElem? e2))).trans e⟩
end Mine
end

/-! part L14 -/
section
open PySem PySem.W PySem.Calls PyProof.Rows
set_option Elab.async false
set_option autoImplicit false
set_option linter.all false
namespace Mine

/-! ### comprehensions -/
/-- what is written between hb and h' beside the tracked objects: the iterators at work, and tracked scraps -/
noncomputable def Turn (c : Cx) (μ : List Addr) (σ : List O) (hb h h' : Heap) : Prop :=
  ∃ J : List Addr, (∀ a ∈ J, hb.get? a = none ∧ c.h₀.get? a = none ∧ ((a ∉ μ ∧ ∃ o, h.get? a = some o ∧ isIt o) ∨ (∃ k : Nat, μ[k]? = some a ∧ σ[k]? = some O.junk ∧ OR c h' μ O.junk a))) ∧ ∀ b o, b ∉ J → h.get? b = some o → h'.get? b = some o

section
variable {c : Cx} {n : Nat} {sc : Scope} {m : Loc} {σ : List O}

theorem Turn.keep {μ : List Addr} {hb h h' : Heap} (T : Turn c μ σ hb h h') : Keep μ h μ h' := by
  obtain ⟨J, h1, h2⟩ := T
  refine ⟨⟨[], by simp, fun _ h => nomatch h⟩, fun a o e hm hv => h2 a o (fun hj => ?_) e⟩
  rcases (h1 a hj).2.2 with ⟨_, o', q1, q2⟩ | ⟨k, q1, _⟩
  · rw [e] at q1; cases q1; exact q2.not hv
  · exact hm (List.mem_of_getElem? q1)
theorem nodup_idx {μ : List Addr} (nd : μ.Nodup) {i j : Nat} {a : Addr} (h1 : μ[i]? = some a) (h2 : μ[j]? = some a) : i = j := by
  obtain ⟨hi, e1⟩ := List.getElem?_eq_some_iff.mp h1
  obtain ⟨hj, e2⟩ := List.getElem?_eq_some_iff.mp h2
  rcases Nat.lt_trichotomy i j with h | h | h
  · exact absurd (e1.trans e2.symm) (List.pairwise_iff_getElem.mp nd i j hi hj h)
  · exact h
  · exact absurd (e2.trans e1.symm) (List.pairwise_iff_getElem.mp nd j i hj hi h)
theorem Turn.hg {μ : List Addr} {hb h h' : Heap} (T : Turn c μ σ hb h h') (G : HG c μ σ h) : HG c μ σ h' := by
  have K := T.keep
  obtain ⟨J, h1, h2⟩ := T
  refine ⟨G.ok, fun a o e => h2 a o (fun hj => by rw [(h1 a hj).2.1] at e; cases e) (G.base a o e), G.new, G.nodup, G.len, fun i x a e1 e2 => ?_⟩
  by_cases hj : a ∈ J
  · rcases (h1 a hj).2.2 with ⟨q1, _⟩ | ⟨k, q1, q2, q3⟩
    · exact absurd (List.mem_of_getElem? e2) q1
    · have := nodup_idx G.nodup e2 q1
      subst this
      rw [q2] at e1; cases e1; exact q3
  · exact (G.rel i x a e1 e2).mono K fun o e => h2 a o hj e
theorem Turn.fg {μ : List Addr} {hb h h' : Heap} {env : Env} (T : Turn c μ σ hb h h') (F : FG c sc env m μ h) : FG c sc env m μ h' := by
  have K := T.keep
  obtain ⟨J, h1, C⟩ := T
  have nj : ∀ x, x ∈ Wof env → x ∉ μ → x ∉ J := fun x hx hm hj => by
    rcases (h1 x hj).2.2 with ⟨_, o', q1, q2⟩ | ⟨k, q1, _⟩
    · exact q2.notStore (F.store x hx o' q1)
    · exact hm (List.mem_of_getElem? q1)
  have nl : env.locals ∉ J := nj _ List.mem_cons_self F.off
  have nc : ∀ p ∈ env.cells, p.2 ∉ J := fun p hp => nj _ (List.mem_cons_of_mem _ (List.mem_map.mpr ⟨p, hp, rfl⟩)) (F.cell p hp).1
  refine ⟨F.scope, F.kind, F.glob, F.blt, F.new, F.off, ?_, fun p hp => ?_, F.apart, fun x hx => ?_⟩
  · obtain ⟨mr, h1, h2⟩ := F.ns
    refine ⟨mr, h1.at' fun o e => C _ o nl e, fun x v hl hm => ?_⟩
    obtain ⟨r, h3, h4⟩ := h2 x v hl hm
    exact ⟨r, h3, VR.mono K _ _ h4⟩
  · obtain ⟨h1, h2, ov, o, h3, h4⟩ := F.cell p hp
    exact ⟨h1, h2, ov, o, C _ o (nc p hp) h3, h4⟩
  · obtain ⟨k, h1, h2⟩ := F.cls x hx
    refine ⟨k, h1, fun v hv => ?_⟩
    obtain ⟨r, ⟨o, h3, h4⟩, h5⟩ := h2 v hv
    exact ⟨r, ⟨o, C _ o (nc _ (mem_of_lookup h1)) h3, h4⟩, VR.mono K _ _ h5⟩
theorem Turn.step {W μ₀ μ : List Addr} {hb h h' : Heap} (T : Turn c μ σ hb h h') (S : Step W μ₀ hb μ h) : Step W μ₀ hb μ h' := by
  obtain ⟨J, h1, C⟩ := T
  have nj : ∀ {a o}, hb.get? a = some o → a ∉ J := fun e hj => by rw [(h1 _ hj).1] at e; cases e
  refine ⟨fun a o e => ?_, S.grow, fun a o e hw hm => C a o (nj e) (S.keep a o e hw hm)⟩
  obtain ⟨o', e'⟩ := S.alive a o e
  exact ⟨o', C a o' (nj e) e'⟩
theorem Turn.chg {μ : List Addr} {hb h h' : Heap} {I : Addr} (C : Chg I h h') (X : Own c μ h I) (hI : hb.get? I = none) : Turn c μ σ hb h h' :=
  ⟨[I], fun a ha => by rw [List.mem_singleton.mp ha]; exact ⟨hI, X.new, .inl ⟨X.off, X.it⟩⟩, fun b o hb e => C b o (fun q => hb (by simp [q])) e⟩

/-- a way to go through things, over the state σ ++ ρ, whatever ρ -/
structure Proto (c : Cx) (A : Around) (σ : List O) (hb : Heap) (target : Expr) (P : List Addr → Heap → Value → List V → Prop) : Prop where
  keep : ∀ {W μ μ' : List Addr} {h h' : Heap} {it : Value} {xs : List V} {ρ ρ' : List O}, P μ h it xs → HG c μ (σ ++ ρ) h → HG c μ' (σ ++ ρ') h' → Step W μ h μ' h' → (∀ x ∈ W, ∀ o, h.get? x = some o → isStore o) → P μ' h' it xs
  turn : ∀ {μ : List Addr} {s : Shared} {it : Value} {xs : List V} {ρ : List O} {N : Shared → Prop} {Y : Shared → Value → Prop} {E : Value → Shared → Prop}, P μ s.heap it xs → HG c μ (σ ++ ρ) s.heap →
    (match xs with
      | [] => ∀ h' tk, Turn c μ (σ ++ ρ) hb s.heap h' → N { s with heap := h', toks := tk }
      | x :: xs => ∀ h' tk v, Turn c μ (σ ++ ρ) hb s.heap h' → VR h' μ x v → P μ h' it xs → Y { s with heap := h', toks := tk } v) →
    wpAny (model c.prog c.w) A (pyNext it) (fun r s₁ => match r with | none => N s₁ | some v => wpAny (model c.prog c.w) A (letOwnedTupleGo target it v) (fun _ s₂ => Y s₂ v) E s₁) E s
  self : ∀ {μ : List Addr} {s : Shared} {it : Value} {xs : List V} {Q : Value → Shared → Prop} {E : Value → Shared → Prop}, P μ s.heap it xs → Q it s → wpAny (model c.prog c.w) A (pyIter it) Q E s

theorem TrOk.app {tr : Option (Nat × List V)} (h : TrOk σ tr) (ρ : List O) : TrOk (σ ++ ρ) tr := by
  unfold TrOk at h ⊢
  split
  · trivial
  · rw [List.getElem?_append_left (List.getElem?_eq_some_iff.mp h).1]; exact h

noncomputable def PlainP (c : Cx) (tr : Option (Nat × List V)) (μ : List Addr) (h : Heap) (it : Value) (xs : List V) : Prop := ∃ I, it = .ref I ∧ Own c μ h I ∧ ItF h μ I tr xs
theorem Proto.plain {A : Around} {hb : Heap} {target : Expr} {tr : Option (Nat × List V)} (hh : A.handled = none) (ht : TrOk σ tr) : Proto c A σ hb target fun μ h it xs => ∃ I, it = .ref I ∧ hb.get? I = none ∧ Own c μ h I ∧ ItF h μ I tr xs := by
  refine ⟨?_, ?_, ?_⟩
  · rintro W μ μ' h h' it xs ρ ρ' ⟨I, rfl, hI, X, it⟩ G G' S hW
    have nw : I ∉ W := fun hm => by
      obtain ⟨o, h1, h2⟩ := X.it
      exact h2.notStore (hW I hm o h1)
    exact ⟨I, rfl, hI, X.step S nw, it.keep (S.keeps hW) fun o e => S.keep I o e nw X.off⟩
  · rintro μ s it xs ρ N Y E ⟨I, rfl, hI, X, it⟩ G k
    refine ItF.next hh G (ht.app ρ) X it fun r h' tk C nr ow => ?_
    have T : Turn c μ (σ ++ ρ) hb s.heap h' := Turn.chg C X hI
    cases xs with
    | nil => cases nr; exact k h' tk T
    | cons x xs =>
      obtain ⟨v, rfl, V, it'⟩ := nr
      exact it'.notOwned (k h' tk v T V ⟨I, rfl, hI, ow (by simp), it'⟩)
  · rintro μ s it xs Q E ⟨I, rfl, hI, X, it⟩ hq
    cases it with
    | lst h1 _ _ _ => exact wpAny_pyIter_listiter h1 hq
    | tup h1 _ _ _ => exact wpAny_pyIter_tupleiter h1 hq
    | trk h1 _ _ _ => exact wpAny_pyIter_listiter h1 hq
    | rng h1 _ _ => exact wpAny_pyIter_rangeiter h1 hq

/-! the loop -/
noncomputable def IfGo (c : Cx) (n : Nat) (sc : Scope) (σ : List O) (m : Loc) (ifs : List Expr) (k : Bool → Prop) : Prop := match ifs with
  | [] => k true
  | [t] => WpT c n sc m σ t fun b σ' => σ' = σ ∧ k b
  | _ => False
noncomputable abbrev Emits := Loc → List V → (Loc → List V → Prop) → Prop
noncomputable def LvGo (c : Cx) (n : Nat) (sc : Scope) (σ : List O) (target : Expr) (ifs : List Expr) (Em : Emits) : List V → Loc → List V → (Loc → List V → Prop) → Prop
  | [], m, acc, K => K m acc
  | x :: xs, m, acc, K => ∃ m', asg1 sc target x m = some m' ∧ IfGo c n sc (σ ++ [.list acc]) m' ifs fun b => if b then Em m' acc fun m'' acc' => LvGo c n sc σ target ifs Em xs m'' acc' K else LvGo c n sc σ target ifs Em xs m' acc K
noncomputable def Em1 (c : Cx) (n : Nat) (sc : Scope) (σ : List O) (elt : Expr) : Emits := fun m acc K => acc.length < 1000000 ∧ WpE c n sc m (σ ++ [.list acc]) elt fun v σ' => σ' = σ ++ [.list acc] ∧ K m (acc ++ [v])
noncomputable def Em2 (c : Cx) (n : Nat) (sc : Scope) (σ : List O) (target iter : Expr) (ifs : List Expr) (elt : Expr) : Emits := fun m acc K => WpE c n sc m (σ ++ [.list acc]) iter fun v σ' => σ' = σ ++ [.list acc] ∧ ItemsOk σ v fun xs tr => LvGo c n sc σ target ifs (Em1 c n sc σ elt) xs m acc K

/-- the emitter does as Em says -/
noncomputable def EmOk (c : Cx) (n : Nat) (sc : Scope) (σ : List O) (env : Env) (D : Addr) (t : Sem Fin → Sem Fin) (Em : Emits) : Prop :=
  ∀ (k : Sem Fin) (A : Around) (m : Loc) (acc : List V) (K : Loc → List V → Prop) (μ : List Addr) (s : Shared) (Q : Fin → Shared → Prop) (E : Value → Shared → Prop), Room n A → Em m acc K → HG c μ (σ ++ [.list acc]) s.heap → FG c sc env m μ s.heap → μ[σ.length]? = some D →
    (∀ m' acc' μ' h' tk, K m' acc' → Step [env.locals] μ s.heap μ' h' → HG c μ' (σ ++ [.list acc']) h' → FG c sc env m' μ' h' → wpAny (model c.prog c.w) A k Q E { s with heap := h', toks := tk }) → wpAny (model c.prog c.w) A (t k) Q E s

theorem em1_sound {env : Env} {D : Addr} {elt : Expr} : EmOk c n sc σ env D (fun k => (do let _ ← call (.builtin "list.append") [.ref D, ← eval elt env]) >>= fun _ => k) (Em1 c n sc σ elt) := by
  intro kf A m acc K μ s Q E hR ⟨hl, h⟩ G F hD kk
  refine wpAny_bind (wpAny_bind (h A env μ s _ E hR G F fun r v σ' μ' h' tk hv S G' V => ?_))
  obtain ⟨rfl, hv⟩ := hv
  have S0 := S
  have hD' : μ'[σ.length]? = some D := S.idx hD
  have hi : (σ ++ [O.list acc])[σ.length]? = some (.list acc) := by rw [List.getElem?_append_right (Nat.le_refl _)]; simp
  refine wpAny_bind (WpC_append (n := n) (v := v) (Φ := fun _ σ' => σ' = σ ++ [.list (acc ++ [v])]) hi hl (by rw [List.set_append_right _ _ (Nat.le_refl _)]; simp) A μ' { s with heap := h', toks := tk } [.ref D, r] _ E hR G' (VRs.cons (by unfold VR; exact ⟨D, rfl, hD'⟩) (VRs.one V)) fun r' v' σ'' μ'' h'' tk' e S' G'' V' => ?_)
  subst e
  refine wpAny_pure (kk m _ μ'' h'' tk' hv (S.trans S').widen G'' ((F.step S).step S'))

noncomputable def lvTurn (ipos : Pos) (target : Expr) (ifs : List Expr) (emit : Sem Fin → Sem Fin) (e : Expr) (d : Nat) (it acc : Value) (env : Env) : Sem Fin := do
  standAt ipos
  match ← pyNext it with
  | none => pure (.done .next)
  | some v =>
    letOwnedTupleGo target it v
    assign target env v
    let mut ok := true
    for c in ifs do
      if ok then ok ← isTrue c env (eval c env)
    if ok then
      emit (again (.compLoop e d it acc env))
    else
      again (.compLoop e d it acc env)

theorem ifs_sound {A : Around} {env : Env} {μ : List Addr} {s : Shared} {ifs : List Expr} {k : Bool → Prop} {Q : Bool → Shared → Prop} {E : Value → Shared → Prop} (hR : Room n A) (h : IfGo c n sc σ m ifs k) (G : HG c μ σ s.heap) (F : FG c sc env m μ s.heap)
    (kk : ∀ b μ' h' tk, k b → Step [] μ s.heap μ' h' → HG c μ' σ h' → Q b { s with heap := h', toks := tk }) :
    wpAny (model c.prog c.w) A (forIn ifs true fun c r => if r = true then do let ok ← isTrue c env (eval c env); pure (ForInStep.yield ok) else pure (ForInStep.yield r)) Q E s := by
  match ifs, h with
  | [], h => exact wpAny_tests_nil (kk true μ s.heap s.toks h (Step.refl _ _ _) G)
  | [t], h =>
    refine wpAny_tests_one (h A env μ s _ E hR G F fun r b σ' μ' h' tk hv S G' V => ?_)
    obtain ⟨rfl, hk⟩ := hv
    subst V
    exact kk b μ' h' tk hk S G'

theorem lv_sound {A : Around} {env : Env} {D : Addr} {hb : Heap} {μb : List Addr} {e : Expr} {d : Nat} {ipos : Pos} {target : Expr} {ifs : List Expr} {emit : Sem Fin → Sem Fin} {Em : Emits} {P : List Addr → Heap → Value → List V → Prop} {R : Result → Shared → Prop} {it : Value} {K : Loc → List V → Prop}
    (hR : Room n A) (he : (model c.prog c.w).den (.compLoop e d it (.ref D) env) = ((compTurn e d it (.ref D) env).onRaise (fun x => do noteFrame x env; theTreesLotGoes x)))
    (hA : A.under (.compLoop e d it (.ref D) env) = A) (hq : (Code.compLoop e d it (.ref D) env).quiet = true)
    (ht : compTurn e d it (.ref D) env = lvTurn ipos target ifs emit e d it (.ref D) env) (tlo : tl sc target = true)
    (hem : EmOk c n sc σ env D emit Em) (Pr : Proto c A σ hb target P)
    {s : Shared} {xs : List V} {m : Loc} {acc : List V} {μ : List Addr} (go : LvGo c n sc σ target ifs Em xs m acc K) (G : HG c μ (σ ++ [.list acc]) s.heap) (F : FG c sc env m μ s.heap) (hD : μ[σ.length]? = some D) (hP : P μ s.heap it xs) (S : Step [env.locals] μb hb μ s.heap)
    (kk : ∀ m' acc' μ' h' tk, K m' acc' → HG c μ' (σ ++ [.list acc']) h' → FG c sc env m' μ' h' → Step [env.locals] μb hb μ' h' → μ'[σ.length]? = some D → R (.ok .next) { s with heap := h', toks := tk }) :
    codeAny (model c.prog c.w) A (.compLoop e d it (.ref D) env) R s := by
  refine codeAny_loop hq (fun k s' => ∃ xs m acc μ' h' tk, s' = { s with heap := h', toks := tk } ∧ k = xs.length ∧ LvGo c n sc σ target ifs Em xs m acc K ∧ HG c μ' (σ ++ [.list acc]) h' ∧ FG c sc env m μ' h' ∧ μ'[σ.length]? = some D ∧ P μ' h' it xs ∧ Step [env.locals] μb hb μ' h')
    (fun k s' hI => ?_) xs.length ⟨xs, m, acc, μ, s.heap, s.toks, rfl, rfl, go, G, F, hD, hP, S⟩
  obtain ⟨xs, m, acc, μ, h, tk, rfl, rfl, go, G, F, hD, hP, S⟩ := hI
  rw [hA, he]
  refine wpAny_noted ?_
  rw [ht]
  have hWs : ∀ (m : Loc) (μ : List Addr) (h : Heap), FG c sc env m μ h → ∀ x ∈ [env.locals], ∀ o, h.get? x = some o → isStore o := fun m μ h F x hx => F.store x (by rw [List.mem_singleton.mp hx]; exact List.mem_cons_self)
  unfold lvTurn
  refine wpAny_bind (wpAny_standAt (wpAny_bind ?_))
  refine wpAny_mono (Pr.turn (s := { s with heap := h, toks := tk }) (ρ := [.list acc]) (N := fun s₁ => R (.ok .next) s₁) (Y := fun s₂ v => wpAny (model c.prog c.w) A (do
      assign target env v
      let mut ok := true
      for c in ifs do
        if ok then ok ← isTrue c env (eval c env)
      if ok then
        emit (again (.compLoop e d it (.ref D) env))
      else
        again (.compLoop e d it (.ref D) env)) (fun fin s' => match fin with
        | .done f => R (.ok f) s'
        | .again c' => c' = .compLoop e d it (.ref D) env ∧ ∃ m, m < xs.length ∧ ∃ xs m_1 acc μ' h' tk, s' = { s with heap := h', toks := tk } ∧ m = xs.length ∧ LvGo c n sc σ target ifs Em xs m_1 acc K ∧ HG c μ' (σ ++ [.list acc]) h' ∧ FG c sc env m_1 μ' h' ∧ μ'[σ.length]? = some D ∧ P μ' h' it xs ∧ Step [env.locals] μb hb μ' h')
        (notedBy (model c.prog c.w) A env fun e s' => R (.error e) s') s₂) hP G ?_) ?_ (fun _ _ h => h)
  · cases xs with
    | nil =>
      intro h' tk' T
      exact kk m acc μ h' tk' go (T.hg G) (T.fg F) (T.step S) hD
    | cons x xs =>
      intro h₁ tk₁ v T V hP₁
      have G₁ := T.hg G
      have F₁ := T.fg F
      have S₁ := T.step S
      obtain ⟨m', ha, hi⟩ := go
      refine wpAny_bind (asgW1_sound (W := [env.locals]) hR.hand (by simp) (fun x hx => by rw [List.mem_singleton.mp hx]; exact List.mem_cons_self) target x m m' { s with heap := h₁, toks := tk₁ } v _ (.inl tlo) ha G₁ F₁ V fun h₂ tk₂ S₂ G₂ F₂ => ?_)
      have hP₂ := Pr.keep (ρ := [.list acc]) (ρ' := [.list acc]) hP₁ G₁ G₂ S₂ (hWs _ _ _ F₁)
      refine wpAny_bind (ifs_sound (s := { s with heap := h₂, toks := tk₂ }) hR hi G₂ F₂ fun b μ₃ h₃ tk₃ hb S₃ G₃ => ?_)
      have F₃ := F₂.step S₃
      have hP₃ := Pr.keep (ρ := [.list acc]) (ρ' := [.list acc]) hP₂ G₂ G₃ S₃ (fun _ h => nomatch h)
      have hD₃ := S₃.idx hD
      have SS : Step [env.locals] μb _ μ₃ h₃ := (S₁.trans S₂).trans S₃.widen
      cases b with
      | false => exact wpAny_pure ⟨rfl, xs.length, by simp, xs, m', acc, μ₃, h₃, tk₃, rfl, rfl, hb, G₃, F₃, hD₃, hP₃, SS⟩
      | true =>
        refine (hem _ A m' acc _ μ₃ { s with heap := h₃, toks := tk₃ } _ _ hR hb G₃ F₃ hD₃ fun m'' acc' μ₄ h₄ tk₄ hk S₄ G₄ F₄ => ?_)
        exact wpAny_pure ⟨rfl, xs.length, by simp, xs, m'', acc', μ₄, h₄, tk₄, rfl, rfl, hk, G₄, F₄, S₄.idx hD₃, Pr.keep hP₃ G₃ G₄ S₄ (hWs _ _ _ F₃), SS.trans S₄⟩
  · intro r s₁ h₁
    cases r with
    | none => exact wpAny_pure h₁
    | some v => exact wpAny_bind h₁
end
end Mine
end

/-! part L15 -/
section
open PySem PySem.W PySem.Calls PyProof.Rows
set_option Elab.async false
set_option autoImplicit false
set_option linter.all false
namespace Mine

theorem turn_1 (elt t i : Expr) (ifs : List Expr) (scope : Scope) (pos : Pos) (it acc : Value) (env : Env) :
    compTurn (.ListComp elt [⟨t, i, ifs, 0⟩] scope pos) 0 it acc env = lvTurn i.pos t ifs (fun k => (do let _ ← call (.builtin "list.append") [acc, ← eval elt env]) >>= fun _ => k) (.ListComp elt [⟨t, i, ifs, 0⟩] scope pos) 0 it acc env := by rfl
theorem turn_2 (elt t i t' i' : Expr) (ifs ifs' : List Expr) (scope : Scope) (pos : Pos) (it acc : Value) (env : Env) :
    compTurn (.ListComp elt [⟨t, i, ifs, 0⟩, ⟨t', i', ifs', 0⟩] scope pos) 1 it acc env = lvTurn i'.pos t' ifs' (fun k => (do let _ ← call (.builtin "list.append") [acc, ← eval elt env]) >>= fun _ => k) (.ListComp elt [⟨t, i, ifs, 0⟩, ⟨t', i', ifs', 0⟩] scope pos) 1 it acc env := by rfl
theorem turn_21 (elt t i t' i' : Expr) (ifs ifs' : List Expr) (scope : Scope) (pos : Pos) (it acc : Value) (env : Env) :
    compTurn (.ListComp elt [⟨t, i, ifs, 0⟩, ⟨t', i', ifs', 0⟩] scope pos) 0 it acc env = lvTurn i.pos t ifs (fun k => do
        let x ← eval i' env
        standAt i'.pos
        let x ← foldedSetIterable i' env x
        let _ ← runOwn (.compStart (.ListComp elt [⟨t, i, ifs, 0⟩, ⟨t', i', ifs', 0⟩] scope pos) 1 (← holding [x] (pyIter x)) acc env) env
        k) (.ListComp elt [⟨t, i, ifs, 0⟩, ⟨t', i', ifs', 0⟩] scope pos) 0 it acc env := by rfl

section
variable {prog : Program} {w : World} {A : Around} {R : Result → Shared → Prop} {s : Shared}
theorem start_0 {elt : Expr} {g : Comprehension} {rest : List Comprehension} {scope : Scope} {pos : Pos} {it acc : Value} {env : Env} (hz : g.is_async = 0)
    (h0 : codeAny (model prog w) A (.compLoop (.ListComp elt (g :: rest) scope pos) 0 it acc env) R s)
    (h : wpAny (model prog w) A (pyIter it) (fun it' s' => codeAny (model prog w) A (.compLoop (.ListComp elt (g :: rest) scope pos) 0 it' acc env) R s')
      (notedBy (model prog w) A env fun x s' => R (.error x) s') s) :
    codeAny (model prog w) A (.compStart (.ListComp elt (g :: rest) scope pos) 0 it acc env) R s := by
  obtain ⟨t, i, ifs, z⟩ := g
  simp only at hz
  subst hz
  exact codeAny_compStart_list h0 h
theorem start_1 {elt t i t' i' : Expr} {ifs ifs' : List Expr} {scope : Scope} {pos : Pos} {it acc : Value} {env : Env}
    (h0 : codeAny (model prog w) A (.compLoop (.ListComp elt [⟨t, i, ifs, 0⟩, ⟨t', i', ifs', 0⟩] scope pos) 1 it acc env) R s)
    (h : wpAny (model prog w) A (pyIter it) (fun it' s' => codeAny (model prog w) A (.compLoop (.ListComp elt [⟨t, i, ifs, 0⟩, ⟨t', i', ifs', 0⟩] scope pos) 1 it' acc env) R s')
      (notedBy (model prog w) A env fun x s' => R (.error x) s') s) :
    codeAny (model prog w) A (.compStart (.ListComp elt [⟨t, i, ifs, 0⟩, ⟨t', i', ifs', 0⟩] scope pos) 1 it acc env) R s := by
  refine codeAny_of_tree ?_
  show wpAny _ _ ((compStart (.ListComp elt [⟨t, i, ifs, 0⟩, ⟨t', i', ifs', 0⟩] scope pos) 1 it acc env).onRaise (fun x => do noteFrame x env; standAt theWindowsPlace)) _ _ s
  refine wpAny_notedAt ?_
  unfold compStart
  show wpAny _ _ (ask >>= _) _ _ s
  refine wpAny_bind (wpAny_askSetting (wpAny_ite ?_))
  split
  · first
      | exact wpAny_bind (wpAny_pure (wpAny_pure (And.intro rfl h0)))
      | exact wpAny_pure (And.intro rfl h0)
  · first
      | exact wpAny_bind (wpAny_rule (wpAny_bind (wpAny_standAt (wpAny_bind (wpAny_mono h (fun it' s' h' => wpAny_pure (And.intro rfl h')) fun _ _ x => x)))))
      | (refine wpAny_bind (wpAny_rule ?_); show wpAny _ _ (standAt i'.pos >>= _) _ _ s; exact wpAny_bind (wpAny_standAt (wpAny_bind (wpAny_mono h (fun it' s' h' => wpAny_pure (And.intro rfl h')) fun _ _ x => x))))
end

section
variable {c : Cx} {n : Nat} {sc : Scope} {m : Loc} {σ : List O}
theorem ItemsOk.app {v : V} {k : List V → Option (Nat × List V) → Prop} (h : ItemsOk σ v k) (ρ : List O) : ItemsOk (σ ++ ρ) v k := by
  cases v with
  | ref r =>
    obtain ⟨xs, hx, h⟩ := LsO.inv h
    show LsO ((σ ++ ρ)[r]?) _
    rw [List.getElem?_append_left (List.getElem?_eq_some_iff.mp hx).1, hx]
    exact h
  | _ => exact h
theorem ItemsOk.mono {v : V} {k k' : List V → Option (Nat × List V) → Prop} (h : ItemsOk σ v k) (hk : ∀ xs tr, k xs tr → k' xs tr) : ItemsOk σ v k' := by
  cases v with
  | tup xs => exact hk _ _ h
  | lst xs => exact hk _ _ h
  | rng x y => exact ⟨h.1, hk _ _ h.2⟩
  | ref r =>
    obtain ⟨xs, hx, h⟩ := LsO.inv h
    show LsO (σ[r]?) _
    rw [hx]
    exact hk _ _ h
  | _ => exact h.elim
theorem ItemsOk.tr {v : V} {k : List V → Option (Nat × List V) → Prop} (h : ItemsOk σ v k) : ItemsOk σ v fun xs tr => k xs tr ∧ TrOk σ tr := by
  cases v with
  | tup xs => exact ⟨h, trivial⟩
  | lst xs => exact ⟨h, trivial⟩
  | rng x y => exact ⟨h.1, h.2, trivial⟩
  | ref r =>
    obtain ⟨xs, hx, h⟩ := LsO.inv h
    show LsO (σ[r]?) _
    rw [hx]
    exact ⟨h, hx⟩
  | _ => exact h.elim

theorem em2_sound {env : Env} {D : Addr} {elt t i t' i' : Expr} {ifs ifs' : List Expr} {scope : Scope} {pos : Pos} (tlo : tl sc t' = true) (hs : ∀ env x, foldedSetIterable i' env x = pure x) :
    EmOk c n sc σ env D (fun k => do
        let x ← eval i' env
        standAt i'.pos
        let x ← foldedSetIterable i' env x
        let _ ← runOwn (.compStart (.ListComp elt [⟨t, i, ifs, 0⟩, ⟨t', i', ifs', 0⟩] scope pos) 1 (← holding [x] (pyIter x)) (.ref D) env) env
        k) (Em2 c n sc σ t' i' ifs' elt) := by
  intro kf A m acc K μ s Q E hR h G F hD kk
  refine wpAny_bind (h A env μ s _ E hR G F fun rv v σ₁ μ₁ h₁ tk₁ hv S₁ G₁ V₁ => ?_)
  obtain ⟨rfl, hv⟩ := hv
  refine wpAny_bind (wpAny_standAt ?_)
  refine wpAny_bind (wpAny_of_eq (hs env rv) ?_)
  refine wpAny_bind (wpAny_holding ?_)
  have F₁ := F.step S₁
  refine iter_sound (s := { s with heap := h₁, toks := tk₁ }) G₁ V₁ (hv.tr.app [.list acc]) fun I h₂ tk₂ xs tr hgo htr hk hI own it => ?_
  obtain ⟨hgo, htr⟩ := hgo
  have S₂ : Step [] μ₁ h₁ μ₁ h₂ := Step.of_keeps hk
  have G₂ := G₁.keeps hk
  have F₂ := F₁.step S₂
  refine wpAny_bind (wpAny_runOwn ?_)
  show codeAny _ A _ _ _
  have Pr : Proto c A σ h₁ t' _ := Proto.plain hR.hand htr
  have loop : codeAny (model c.prog c.w) A (.compLoop (.ListComp elt [⟨t, i, ifs, 0⟩, ⟨t', i', ifs', 0⟩] scope pos) 1 (.ref I) (.ref D) env) (fun r s' => match r with | .ok f => wpAny (model c.prog c.w) A kf Q E s' | .error e => cameBackBy (model c.prog c.w) A env E e s') { s with heap := h₂, toks := tk₂ } :=
    lv_sound (R := fun r s' => match r with | .ok f => wpAny (model c.prog c.w) A kf Q E s' | .error e => cameBackBy (model c.prog c.w) A env E e s') (s := { s with heap := h₂, toks := tk₂ }) hR rfl rfl rfl (turn_2 elt t i t' i' ifs ifs' scope pos (.ref I) (.ref D) env) tlo em1_sound Pr hgo G₂ F₂ (S₁.idx hD) ⟨I, rfl, hI, own, it⟩ S₂.widen
      fun m' acc' μ' h' tk hK G' F' S' _ => kk m' acc' μ' h' tk hK (S₁.widen.trans S') G' F'
  exact start_1 loop (Pr.self (s := { s with heap := h₂, toks := tk₂ }) ⟨I, rfl, hI, own, it⟩ loop)

/-- the frame of a comprehension, and its list; and what is left of them -/
theorem comp_sound {A : Around} {env : Env} {elt : Expr} {g : Comprehension} {rest : List Comprehension} {scope : Scope} {pos pos' : Pos} {Q : Value → Shared → Prop} {E : Value → Shared → Prop} {μ : List Addr} {s : Shared} {ρ : List O} {Em : Emits} {P : List Addr → Heap → Value → List V → Prop} {Φ : V → List O → Prop} {emit : Addr → Env → Sem Fin → Sem Fin}
    (hR : Room n A) (OK : CompOk sc scope) (ht : tl (relab sc scope) g.target = true) (hz : g.is_async = 0)
    (hturn : ∀ it D env, compTurn (.ListComp elt (g :: rest) scope pos) 0 it (.ref D) env = lvTurn g.iter.pos g.target g.ifs (emit D env) (.ListComp elt (g :: rest) scope pos) 0 it (.ref D) env)
    (hem : ∀ D env, EmOk c n (relab sc scope) (σ ++ ρ) env D (emit D env) Em)
    (hs : ∀ x, foldedSetIterable g.iter env x = pure x)
    (Pr : Proto c A (σ ++ ρ) s.heap g.target P)
    (hG : HG c μ σ s.heap) (hF : FG c sc env m μ s.heap)
    (iter : ∀ Q E, (∀ ν h' tk xs it, Step [] μ s.heap (μ ++ ν) h' → HG c (μ ++ ν) (σ ++ ρ) h' → P (μ ++ ν) h' it xs →
        (LvGo c n (relab sc scope) (σ ++ ρ) g.target g.ifs Em xs (compLoc scope m) [] fun _ acc => rbs σ.length acc = true ∧ Φ (.lst acc) σ) → Q it { s with heap := h', toks := tk }) → wpAny (model c.prog c.w) A (eval g.iter env) (fun x s₁ => wpAny (model c.prog c.w) A (pyIter x) Q E s₁) E s)
    (kk : Kont c μ s Φ Q) :
    wpAny (model c.prog c.w) A (comprehension (.ListComp elt (g :: rest) scope pos) scope env pos' (newList []) false (eval g.iter env)) Q E s := by
  have hfree : ∀ x ∈ frees scope, ∃ k, env.cells.lookup x = some k := fun x hx => by
    have := List.all_eq_true.mp OK.free _ hx
    obtain ⟨k, h2, _⟩ := hF.cls x (by simpa using this)
    exact ⟨k, h2⟩
  obtain ⟨cl, e1, e2, e3⟩ := closure_of hfree
  refine wpAny_comprehension_free (use := none) rfl hs e1 OK.kind (fun x hx hl => by have := lookup_nodup OK.nd hx; rw [this, hl]) (iter _ _ ?_)
  intro ν h' tk xs it S₁ G₁ hP go
  refine wpAny_newObj_type ?_
  -- the list
  have hl0 : VRs h' (μ ++ ν) ([] : List V) ([] : List Value) := VRs.nil
  obtain ⟨G₂, S₂⟩ := G₁.alloc (lstO #[] 0) (x := .list []) ⟨#[], 0, Heap.get?_push_size _ rfl, VRs.nil⟩
  generalize hH : h'.push (lstO #[] 0) = H at G₂ S₂
  have hsz : H.objs.size = h'.objs.size + 1 := by rw [← hH, Heap.size_push]
  refine wpAny_newFunctionEnv (fun x hx => by have := List.all_eq_true.mp OK.nocell x hx; simpa using this) (by intro y hy; simp at hy) (fun h₁ hns hsb => ?_) OK.kind
  have hk : ∀ a o, H.get? a = some o → h₁.get? a = some o := fun a o e => (hsb.2 a (Nat.ne_of_lt (Heap.lt_size e))).trans (Heap.get?_push_of_some _ e)
  have S₃ : Step [] (μ ++ ν ++ [h'.objs.size]) H (μ ++ ν ++ [h'.objs.size]) h₁ := Step.of_keeps hk
  have G₃ := G₂.keeps hk
  have F₃ : FG c (relab sc scope) (compEnvC scope cl H.objs.size env) (compLoc scope m) (μ ++ ν ++ [h'.objs.size]) h₁ :=
    ((hF.step S₁).step S₂).comp OK e2 e3 hk (by simpa using hns) (G₂.fresh (get_size _)) G₂.size_off
  have hD : (μ ++ ν ++ [h'.objs.size])[(σ ++ ρ).length]? = some h'.objs.size := by
    rw [G₁.len, List.getElem?_append_right (Nat.le_refl _)]; simp
  have hP₂ : P (μ ++ ν ++ [h'.objs.size]) H it xs := Pr.keep (ρ := []) (ρ' := [.list []]) hP (by rw [List.append_nil]; exact G₁) G₂ S₂ (fun _ h => nomatch h)
  have hP₃ := Pr.keep hP₂ G₂ G₃ S₃ (fun _ h => nomatch h)
  have S03 : Step [] μ s.heap (μ ++ ν ++ [h'.objs.size]) h₁ := (S₁.trans S₂).trans S₃
  have hdead : s.heap.get? H.objs.size = none := by
    cases q : s.heap.get? H.objs.size with
    | none => rfl
    | some o => obtain ⟨o', e'⟩ := (S₁.trans S₂).alive _ _ q; rw [get_size] at e'; cases e'
  have loop : codeAny (model c.prog c.w) A (.compLoop (.ListComp elt (g :: rest) scope pos) 0 it (.ref h'.objs.size) (compEnvC scope cl H.objs.size env)) (compPost (model c.prog c.w) A E none Q (.ref h'.objs.size) H.objs.size) { s with heap := h₁, toks := tk + 0 } := by
    refine lv_sound (R := compPost (model c.prog c.w) A E none Q (.ref h'.objs.size) H.objs.size) (s := { s with heap := h₁, toks := tk + 0 }) hR rfl rfl rfl (hturn _ _ _) ht (hem _ _) Pr go G₃ F₃ hD hP₃ (S03.widen (W := [H.objs.size]))
      fun m' acc' μ' h₄ tk₄ hK G₄ F₄ S₄ hD₄ => ?_
    obtain ⟨mr, hns₄, _⟩ := F₄.ns
    refine ⟨mr, hns₄, fun h₅ hs₅ => ?_⟩
    have hCs : ∃ o, h₄.get? H.objs.size = some o ∧ isStore o := by
      obtain ⟨o, hm⟩ : ∃ o, h₄.get? H.objs.size = some o := by obtain ⟨o, _, _, q, _⟩ := hns₄; exact ⟨o, q⟩
      exact ⟨o, hm, F₄.store _ List.mem_cons_self o hm⟩
    have G₅ := G₄.store hs₅ F₄.off F₄.new hCs
    obtain ⟨oC, hC1, hC2⟩ := hCs
    have S₅ : Step [] μ s.heap μ' h₅ := ⟨fun a o e => by
      obtain ⟨o', e'⟩ := S₄.alive a o e
      have hne : a ≠ H.objs.size := by rintro rfl; rw [hdead] at e; cases e
      exact ⟨o', (hs₅.2 a hne).trans e'⟩, S₄.grow, fun a o e _ hm => by
      have hne : a ≠ H.objs.size := by rintro rfl; rw [hdead] at e; cases e
      exact (hs₅.2 a hne).trans (S₄.keep a o e (by simp only [List.mem_singleton]; exact hne) hm)⟩
    -- the list is let go
    have hDi : (σ ++ ρ ++ [O.list acc'])[(σ ++ ρ).length]? = some (.list acc') := by rw [List.getElem?_append_right (Nat.le_refl _)]; simp
    obtain ⟨items, q, g1, g2⟩ := G₅.rel _ _ _ hDi hD₄
    have hl := hG.len
    obtain ⟨ν', rfl, hν'⟩ := S₅.grow
    have G₆ : HG c μ σ h₅ := by
      have := G₅
      rw [List.append_assoc] at this
      exact this.drop hl fun x hx => by rw [← hl]; exact hG.rbO x hx
    have V₆ : VRs h₅ μ acc' items.toList := VRs.dropR _ _ g2 (by rw [← hl]; exact hK.1)
    have hDm : h'.objs.size ∉ μ := fun hm => absurd (G₁.lt (List.mem_append_left ν hm)) (Nat.lt_irrefl _)
    exact kk (.ref h'.objs.size) (.lst acc') σ μ h₅ _ hK.2 S₅.drop G₆ (VR.lst hDm g1 V₆)
  exact start_0 hz loop (Pr.self (s := { s with heap := h₁, toks := tk + 0 }) hP₃ loop)

/-- the plain way into a comprehension -/
theorem iter_plain {A : Around} {env : Env} {μ : List Addr} {s : Shared} {i : Expr} {k : List V → Prop} {Q : Value → Shared → Prop} {E : Value → Shared → Prop}
    (hR : Room n A) (G : HG c μ σ s.heap) (F : FG c sc env m μ s.heap) (h : WpE c n sc m σ i fun v σ₁ => σ₁ = σ ∧ ItemsOk σ v fun xs _ => k xs)
    (kk : ∀ ν h' tk xs it tr, Step [] μ s.heap (μ ++ ν) h' → HG c (μ ++ ν) σ h' → (∃ I, it = .ref I ∧ s.heap.get? I = none ∧ Own c (μ ++ ν) h' I ∧ ItF h' (μ ++ ν) I tr xs) → TrOk σ tr → k xs → Q it { s with heap := h', toks := tk }) :
    wpAny (model c.prog c.w) A (eval i env) (fun x s₁ => wpAny (model c.prog c.w) A (pyIter x) Q E s₁) E s := by
  refine h A env μ s _ E hR G F fun rv v σ₁ μ₁ h₁ tk₁ hv S₁ G₁ V₁ => ?_
  obtain ⟨rfl, hv⟩ := hv
  have S₁' := S₁
  obtain ⟨ν, rfl, hν⟩ := S₁.grow
  refine iter_sound (s := { s with heap := h₁, toks := tk₁ }) G₁ V₁ hv fun I h₂ tk₂ xs tr hgo htr hk hI own it => ?_
  have dead : s.heap.get? I = none := by
    cases q : s.heap.get? I with
    | none => rfl
    | some o => obtain ⟨o', e'⟩ := S₁'.alive _ _ q; rw [hI] at e'; cases e'
  exact kk ν h₂ tk₂ xs (.ref I) tr (S₁'.trans (Step.of_keeps hk)) (G₁.keeps hk) ⟨I, rfl, dead, own, it⟩ htr hgo

theorem rw_listcomp (elt : Expr) (g : Comprehension) (rest : List Comprehension) (scope : Scope) (pos : Pos) (env : Env) (hz : g.is_async = 0) : ∃ p, eval (.ListComp elt (g :: rest) scope pos) env = comprehension (.ListComp elt (g :: rest) scope pos) scope env p (newList []) false (eval g.iter env) none := by
  rw [eval_ListComp]
  obtain ⟨t, i, ifs, z⟩ := g
  simp only at hz
  subst hz
  exact ⟨_, rfl⟩

theorem Proto.plainE {A : Around} {hb : Heap} {target : Expr} (hh : A.handled = none) : Proto c A σ hb target fun μ h it xs => ∃ tr, TrOk σ tr ∧ ∃ I, it = .ref I ∧ hb.get? I = none ∧ Own c μ h I ∧ ItF h μ I tr xs := by
  refine ⟨?_, ?_, ?_⟩
  · rintro W μ μ' h h' it xs ρ ρ' ⟨tr, ht, hp⟩ G G' S hW
    exact ⟨tr, ht, (Proto.plain (target := target) hh ht).keep hp G G' S hW⟩
  · rintro μ s it xs ρ N Y E ⟨tr, ht, hp⟩ G k
    refine (Proto.plain (target := target) hh ht).turn hp G ?_
    cases xs with
    | nil => exact k
    | cons x xs => exact fun h' tk v T V q => k h' tk v T V ⟨tr, ht, q⟩
  · rintro μ s it xs Q E ⟨tr, ht, hp⟩ hq
    exact (Proto.plain (target := target) hh ht).self hp hq

theorem WpE_comp {elt t i : Expr} {ifs : List Expr} {rest : List Comprehension} {scope : Scope} {pos : Pos} {Φ : V → List O → Prop} {Em : Emits} {emit : Addr → Env → Sem Fin → Sem Fin} (OK : CompOk sc scope) (ht : tl (relab sc scope) t = true)
    (hturn : ∀ it D env, compTurn (.ListComp elt (⟨t, i, ifs, 0⟩ :: rest) scope pos) 0 it (.ref D) env = lvTurn i.pos t ifs (emit D env) (.ListComp elt (⟨t, i, ifs, 0⟩ :: rest) scope pos) 0 it (.ref D) env)
    (hem : ∀ D env, EmOk c n (relab sc scope) σ env D (emit D env) Em)
    (h : WpE c n sc m σ i fun v σ₁ => σ₁ = σ ∧ ItemsOk σ v fun xs _ => LvGo c n (relab sc scope) σ t ifs Em xs (compLoc scope m) [] fun _ acc => rbs σ.length acc = true ∧ Φ (.lst acc) σ)
    (hs : ∀ env x, foldedSetIterable i env x = pure x) : WpE c n sc m σ (.ListComp elt (⟨t, i, ifs, 0⟩ :: rest) scope pos) Φ := by
  intro A env μ s Q E hR hG hF kk
  obtain ⟨p, e⟩ := rw_listcomp elt ⟨t, i, ifs, 0⟩ rest scope pos env rfl
  show wpAny _ _ (eval _ env) _ _ _
  have go := comp_sound (σ := σ) (ρ := []) (Φ := Φ) (Em := Em) (emit := emit) (elt := elt) (g := ⟨t, i, ifs, 0⟩) (rest := rest) (pos := pos) (pos' := p) (E := E) (Q := Q) hR OK ht rfl
    (fun it D env => hturn it D env) (fun D env => by rw [List.append_nil]; exact hem D env) (hs env) (P := fun μ h it xs => ∃ tr, TrOk σ tr ∧ ∃ I, it = .ref I ∧ s.heap.get? I = none ∧ Own c μ h I ∧ ItF h μ I tr xs) (by rw [List.append_nil]; exact Proto.plainE hR.hand) hG hF (fun Q E kq => iter_plain hR hG hF h fun ν h' tk xs it tr S G hp ht go => kq ν h' tk xs it S (by rw [List.append_nil]; exact G) ⟨tr, ht, hp⟩ (by rw [List.append_nil]; exact go)) kk
  rw [e]
  exact go

noncomputable abbrev compK (c : Cx) (n : Nat) (sc : Scope) (m : Loc) (σ : List O) (t : Expr) (ifs : List Expr) (Em : Emits) (scope : Scope) (Φ : V → List O → Prop) : V → List O → Prop := fun v σ₁ => σ₁ = σ ∧ ItemsOk σ v fun xs _ => LvGo c n (relab sc scope) σ t ifs Em xs (compLoc scope m) [] fun _ acc => rbs σ.length acc = true ∧ Φ (.lst acc) σ
theorem WpE_comp1 {elt t i : Expr} {ifs : List Expr} {scope : Scope} {pos : Pos} {Φ : V → List O → Prop} (OK : CompOk sc scope) (ht : tl (relab sc scope) t = true)
    (h : WpE c n sc m σ i (compK c n sc m σ t ifs (Em1 c n (relab sc scope) σ elt) scope Φ))
    (hs : ∀ env x, foldedSetIterable i env x = pure x := by intro _ _; rfl) : WpE c n sc m σ (.ListComp elt [⟨t, i, ifs, 0⟩] scope pos) Φ :=
  WpE_comp OK ht (fun it D env => turn_1 _ _ _ _ _ _ _ _ _) (fun D env => em1_sound) h hs
theorem WpE_comp2 {elt t i t' i' : Expr} {ifs ifs' : List Expr} {scope : Scope} {pos : Pos} {Φ : V → List O → Prop} (OK : CompOk sc scope) (ht : tl (relab sc scope) t = true) (ht' : tl (relab sc scope) t' = true)
    (h : WpE c n sc m σ i (compK c n sc m σ t ifs (Em2 c n (relab sc scope) σ t' i' ifs' elt) scope Φ))
    (hs : ∀ env x, foldedSetIterable i env x = pure x := by intro _ _; rfl) (hs' : ∀ env x, foldedSetIterable i' env x = pure x := by intro _ _; rfl) : WpE c n sc m σ (.ListComp elt [⟨t, i, ifs, 0⟩, ⟨t', i', ifs', 0⟩] scope pos) Φ :=
  WpE_comp OK ht (fun it D env => turn_21 _ _ _ _ _ _ _ _ _ _ _ _) (fun D env => em2_sound ht' hs') h hs
end
end Mine
end

/-! part L16 -/
section
open PySem PySem.W PySem.Calls PyProof.Rows
set_option Elab.async false
set_option autoImplicit false
set_option linter.all false
namespace Mine

/-! ### built-in functions -/
section
variable {c : Cx} {n : Nat} {sc : Scope} {m : Loc} {σ : List O}

theorem kk_keeps {μ : List Addr} {s : Shared} {Φ : V → List O → Prop} {Q : Value → Shared → Prop} (k : Kont c μ s Φ Q) (G : HG c μ σ s.heap) {h' : Heap} {tk : Nat} (hk : ∀ b o, s.heap.get? b = some o → h'.get? b = some o) {v : V} {r : Value} (hv : VR h' μ v r) (h : Φ v σ) : Q r { s with heap := h', toks := tk } :=
  k r v σ μ h' tk h (Step.of_keeps hk) (G.keeps hk) hv

theorem WpC_len {x : V} {k : Nat} {Φ : V → List O → Prop} (hx : (match x with | .tup xs => some xs.length | .lst xs => some xs.length | .ref r => (match σ[r]? with | some (.list xs) => some xs.length | _ => none) | _ => none) = some k) (hz : k < 2 ^ 62) (h : Φ (.int k) σ) : WpC c n (.builtin "len") σ [x] Φ := by
  intro A μ s vs Q E hR hG hv kk
  have kk : Kont c μ s Φ Q := kk
  obtain ⟨r1, w1, rfl, e1, e2⟩ := VRs.uncons hv
  rw [VRs.nil_inv e2]
  cases x with
  | tup xs =>
    cases hx
    obtain ⟨a, items, q, rfl, h1, h2, h3⟩ := e1.tup_inv
    have hl := h3.length
    simp only [Array.length_toList] at hl
    refine P.len_tuple h2 (by (first | lia | omega)) ?_
    rw [hl]
    exact kk.same hG h (VR.int _ _)
  | lst xs =>
    cases hx
    obtain ⟨a, items, q, rfl, h1, h2, h3⟩ := e1.lst_inv
    have hl := h3.length
    simp only [Array.length_toList] at hl
    refine call_len_list (isList_of h2) (by (first | lia | omega)) ?_
    rw [hl]
    exact kk.same hG h (VR.int _ _)
  | ref r =>
    obtain ⟨a, rfl, ha⟩ := e1.ref_inv
    simp only at hx
    split at hx
    · rename_i xs hs
      cases hx
      obtain ⟨items, q, g1, g2⟩ := hG.rel _ _ _ hs ha
      have hl := g2.length
      simp only [Array.length_toList] at hl
      refine call_len_list (isList_of g1) (by (first | lia | omega)) ?_
      rw [hl]
      exact kk.same hG h (VR.int _ _)
    · cases hx
  | _ => cases hx

theorem WpC_abs {i : Int} {Φ : V → List O → Prop} (h : Φ (.int (if i < 0 then -i else i)) σ) : WpC c n (.builtin "abs") σ [.int i] Φ := by
  intro A μ s vs Q E hR hG hv kk
  have kk : Kont c μ s Φ Q := kk
  obtain ⟨r1, w1, rfl, e1, e2⟩ := VRs.uncons hv
  rw [VRs.nil_inv e2]
  obtain ⟨t, rfl⟩ := e1.int_inv
  exact call_abs_int fun u tk => kk.same hG h (VR.int _ _)
theorem WpC_int {i : Int} {Φ : V → List O → Prop} (h : Φ (.int i) σ) : WpC c n (.type "int") σ [.int i] Φ := by
  intro A μ s vs Q E hR hG hv kk
  have kk : Kont c μ s Φ Q := kk
  obtain ⟨r1, w1, rfl, e1, e2⟩ := VRs.uncons hv
  rw [VRs.nil_inv e2]
  obtain ⟨t, rfl⟩ := e1.int_inv
  exact call_int_int (kk.here hG h (VR.int _ _))
theorem WpC_intB {b : Bool} {Φ : V → List O → Prop} (h : Φ (.int (if b then 1 else 0)) σ) : WpC c n (.type "int") σ [.bool b] Φ := by
  intro A μ s vs Q E hR hG hv kk
  have kk : Kont c μ s Φ Q := kk
  obtain ⟨r1, w1, rfl, e1, e2⟩ := VRs.uncons hv
  rw [VRs.nil_inv e2]
  rw [e1.bool_inv]
  exact call_int_bool (kk.same hG h (VR.int _ _))

theorem WpC_max2 {a b : Int} {Φ : V → List O → Prop} (h : Φ (.int (if b > a then b else a)) σ) : WpC c n (.builtin "max") σ [.int a, .int b] Φ := by
  intro A μ s vs Q E hR hG hv kk
  have kk : Kont c μ s Φ Q := kk
  obtain ⟨r1, w1, rfl, e1, e2⟩ := VRs.uncons hv
  obtain ⟨r2, w2, rfl, e3, e4⟩ := VRs.uncons e2
  rw [VRs.nil_inv e4]
  obtain ⟨t, rfl⟩ := e1.int_inv
  obtain ⟨u, rfl⟩ := e3.int_inv
  refine max_two_ints hR.hand fun h' tk hk => kk_keeps kk hG hk (v := .int (if b > a then b else a)) ?_ h
  split
  · exact VR.int _ _
  · exact VR.int _ _

noncomputable def intsOf (vs : List Value) : Array (Int × Tok) := (vs.map fun v => match v with | .int i t => (i, t) | _ => (0, 0)).toArray
theorem VRs.intsOf {h : Heap} {μ : List Addr} : ∀ {xs : List Int} {vs : List Value}, VRs h μ (xs.map V.int) vs → intItems (Mine.intsOf vs) = vs.toArray ∧ (Mine.intsOf vs).toList.map (·.1) = xs
  | [], vs, e => by rw [VRs.nil_inv e]; exact ⟨by simp [intItems, Mine.intsOf], by simp [Mine.intsOf]⟩
  | x :: xs, vs, e => by
    obtain ⟨v, ws, rfl, e1, e2⟩ := VRs.uncons e
    obtain ⟨t, rfl⟩ := e1.int_inv
    obtain ⟨h1, h2⟩ := VRs.intsOf e2
    have h1' := congrArg Array.toList h1
    simp [intItems, Mine.intsOf] at h1' h2
    constructor
    · apply Array.toList_inj.mp
      simpa [intItems, Mine.intsOf] using h1'
    · simpa [Mine.intsOf] using h2
theorem argBest_le (bt : Nat → Nat → Bool) : ∀ k, argBest bt k ≤ k
  | 0 => Nat.le_refl _
  | k + 1 => by unfold argBest; split; exact Nat.le_refl _; exact Nat.le_succ_of_le (argBest_le bt k)
theorem argBest_gt (f : Nat → Int) : ∀ k i, i ≤ k → f i ≤ f (argBest (fun i j => decide (f i > f j)) k)
  | 0, i, h => by have : i = 0 := by (first | lia | omega)
                  subst this; exact Int.le_refl _
  | k + 1, i, h => by
    unfold argBest
    have ih := argBest_gt f k
    by_cases hc : f (k + 1) > f (argBest (fun i j => decide (f i > f j)) k)
    · rw [if_pos (by simpa using hc)]
      by_cases hi : i = k + 1
      · subst hi; exact Int.le_refl _
      · have := ih i (by (first | lia | omega)); (first | lia | omega)
    · rw [if_neg (by simpa using hc)]
      by_cases hi : i = k + 1
      · subst hi; (first | lia | omega)
      · exact ih i (by (first | lia | omega))
theorem argBest_lt (f : Nat → Int) : ∀ k i, i ≤ k → f (argBest (fun i j => decide (f i < f j)) k) ≤ f i
  | 0, i, h => by have : i = 0 := by (first | lia | omega)
                  subst this; exact Int.le_refl _
  | k + 1, i, h => by
    unfold argBest
    have ih := argBest_lt f k
    by_cases hc : f (k + 1) < f (argBest (fun i j => decide (f i < f j)) k)
    · rw [if_pos (by simpa using hc)]
      by_cases hi : i = k + 1
      · subst hi; exact Int.le_refl _
      · have := ih i (by (first | lia | omega)); (first | lia | omega)
    · rw [if_neg (by simpa using hc)]
      by_cases hi : i = k + 1
      · subst hi; (first | lia | omega)
      · exact ih i (by (first | lia | omega))

theorem numAt_eq {ys : Array (Int × Tok)} {xs : List Int} (h : ys.toList.map (·.1) = xs) (i : Nat) : numAt ys i = (xs[i]?).getD 0 := by
  subst h; unfold numAt; simp [List.getElem?_map]
/-- what is best, said of the list -/
theorem best_gt {ys : Array (Int × Tok)} {xs : List Int} (h : ys.toList.map (·.1) = xs) (hne : xs ≠ []) {v : Value} (hv : (intItems ys)[argBest (fun i j => decide (numAt ys i > numAt ys j)) (ys.size - 1)]? = some v) :
    ∃ r t, v = .int r t ∧ r ∈ xs ∧ ∀ x ∈ xs, x ≤ r := by
  obtain ⟨t, rfl⟩ := intItems_at hv
  have hl : xs.length = ys.size := by subst h; simp
  have h0 : 0 < xs.length := List.length_pos_iff.mpr hne
  have hb := argBest_le (fun i j => decide (numAt ys i > numAt ys j)) (ys.size - 1)
  refine ⟨_, t, rfl, ?_, fun x hx => ?_⟩
  · rw [numAt_eq h, List.getElem?_eq_getElem (by (first | lia | omega))]
    exact List.getElem_mem _
  · obtain ⟨i, hi, rfl⟩ := List.getElem_of_mem hx
    have := argBest_gt (numAt ys) (ys.size - 1) i (by (first | lia | omega))
    rwa [numAt_eq h i, List.getElem?_eq_getElem hi] at this
theorem best_lt {ys : Array (Int × Tok)} {xs : List Int} (h : ys.toList.map (·.1) = xs) (hne : xs ≠ []) {v : Value} (hv : (intItems ys)[argBest (fun i j => decide (numAt ys i < numAt ys j)) (ys.size - 1)]? = some v) :
    ∃ r t, v = .int r t ∧ r ∈ xs ∧ ∀ x ∈ xs, r ≤ x := by
  obtain ⟨t, rfl⟩ := intItems_at hv
  have hl : xs.length = ys.size := by subst h; simp
  have h0 : 0 < xs.length := List.length_pos_iff.mpr hne
  have hb := argBest_le (fun i j => decide (numAt ys i < numAt ys j)) (ys.size - 1)
  refine ⟨_, t, rfl, ?_, fun x hx => ?_⟩
  · rw [numAt_eq h, List.getElem?_eq_getElem (by (first | lia | omega))]
    exact List.getElem_mem _
  · obtain ⟨i, hi, rfl⟩ := List.getElem_of_mem hx
    have := argBest_lt (numAt ys) (ys.size - 1) i (by (first | lia | omega))
    rwa [numAt_eq h i, List.getElem?_eq_getElem hi] at this

theorem iter_intTup {A : Around} {s : Shared} {l : Addr} {xs : Array (Int × Tok)} {Q : Value → Shared → Prop} {E : Value → Shared → Prop} (hl : s.heap.IsTuple l (intItems xs))
    (h : ∀ s₂ : Shared, s₂ = { s with heap := s.heap.push { cls := .type "tuple_iterator", data := .fields #[.ref l, .int 0 0] } } →
      (s₂.heap.IsTupleIter s.heap.objs.size l 0 ∧ s₂.heap.IsTuple l (intItems xs)) → (∀ b ∈ [s.heap.objs.size, l], b < s₂.heap.objs.size) → l ≠ s.heap.objs.size → Q (.ref s.heap.objs.size) s₂) :
    wpAny (model c.prog c.w) A (pyIter (.ref l)) Q E s := by
  have hlt : l < s.heap.objs.size := by obtain ⟨_, e, _⟩ := hl; exact Heap.lt_size e
  refine wpAny_pyIter_tuple hl (h _ rfl ⟨⟨_, Heap.get?_push_size _ rfl, rfl, rfl⟩, hl.push _⟩ (fun b hb => ?_) (Nat.ne_of_lt hlt))
  show b < (s.heap.push _).objs.size
  rw [Heap.size_push]
  rcases List.mem_cons.mp hb with rfl | hb
  · exact Nat.lt_succ_self _
  · rcases List.mem_cons.mp hb with rfl | hb
    · exact Nat.lt_succ_of_lt hlt
    · cases hb
theorem old_keptT {h h' : Heap} {o' : Obj} (hk : ∀ b o, b ∉ [h.objs.size] → (h.push o').get? b = some o → h'.get? b = some o) :
    ∀ b o, h.get? b = some o → h'.get? b = some o := fun b o e => by
  refine hk b o (fun hm => ?_) (Heap.get?_push_of_some _ e)
  rcases List.mem_cons.mp hm with e1 | hm
  · exact absurd (e1 ▸ Heap.lt_size e) (Nat.lt_irrefl _)
  · cases hm

theorem WpC_maxL {xs : List Int} (hne : xs ≠ []) {Φ : V → List O → Prop} (h : ∀ r, r ∈ xs → (∀ x ∈ xs, x ≤ r) → Φ (.int r) σ) : WpC c n (.builtin "max") σ [.lst (xs.map V.int)] Φ := by
  intro A μ s vs Q E hR hG hv kk
  have kk : Kont c μ s Φ Q := kk
  obtain ⟨r1, w1, rfl, e1, e2⟩ := VRs.uncons hv
  rw [VRs.nil_inv e2]
  obtain ⟨a, items, q, rfl, h1, h2, h3⟩ := e1.lst_inv
  obtain ⟨g1, g2⟩ := VRs.intsOf h3
  rw [Array.toArray_toList] at g1
  have hl : s.heap.IsList a (intItems (Mine.intsOf items.toList)) := by rw [g1]; exact isList_of h2
  refine max_intList hR.hand hl (by have : (Mine.intsOf items.toList).toList ≠ [] := fun e => hne (by rw [← g2, e]; rfl)
                                    have := List.length_pos_iff.mpr this; simpa using this) fun v h' tk hv hk => ?_
  obtain ⟨r, t, rfl, m1, m2⟩ := best_gt g2 hne hv
  exact kk_keeps kk hG hk (VR.int _ _) (h r m1 m2)
theorem WpC_minL {xs : List Int} (hne : xs ≠ []) {Φ : V → List O → Prop} (h : ∀ r, r ∈ xs → (∀ x ∈ xs, r ≤ x) → Φ (.int r) σ) : WpC c n (.builtin "min") σ [.lst (xs.map V.int)] Φ := by
  intro A μ s vs Q E hR hG hv kk
  have kk : Kont c μ s Φ Q := kk
  obtain ⟨r1, w1, rfl, e1, e2⟩ := VRs.uncons hv
  rw [VRs.nil_inv e2]
  obtain ⟨a, items, q, rfl, h1, h2, h3⟩ := e1.lst_inv
  obtain ⟨g1, g2⟩ := VRs.intsOf h3
  rw [Array.toArray_toList] at g1
  have hl : s.heap.IsList a (intItems (Mine.intsOf items.toList)) := by rw [g1]; exact isList_of h2
  refine min_intList hR.hand hl (by have : (Mine.intsOf items.toList).toList ≠ [] := fun e => hne (by rw [← g2, e]; rfl)
                                    have := List.length_pos_iff.mpr this; simpa using this) fun v h' tk hv hk => ?_
  obtain ⟨r, t, rfl, m1, m2⟩ := best_lt g2 hne hv
  exact kk_keeps kk hG hk (VR.int _ _) (h r m1 m2)
theorem WpC_maxT {xs : List Int} (hne : xs ≠ []) {Φ : V → List O → Prop} (h : ∀ r, r ∈ xs → (∀ x ∈ xs, x ≤ r) → Φ (.int r) σ) : WpC c n (.builtin "max") σ [.tup (xs.map V.int)] Φ := by
  intro A μ s vs Q E hR hG hv kk
  have kk : Kont c μ s Φ Q := kk
  obtain ⟨r1, w1, rfl, e1, e2⟩ := VRs.uncons hv
  rw [VRs.nil_inv e2]
  obtain ⟨a, items, q, rfl, h1, h2, h3⟩ := e1.tup_inv
  obtain ⟨g1, g2⟩ := VRs.intsOf h3
  rw [Array.toArray_toList] at g1
  have hl : s.heap.IsTuple a (intItems (Mine.intsOf items.toList)) := by rw [g1]; exact isTuple_of h2
  have hz : 0 < (Mine.intsOf items.toList).size := by
    have : (Mine.intsOf items.toList).toList ≠ [] := fun e => hne (by rw [← g2, e]; rfl)
    have := List.length_pos_iff.mpr this; simpa using this
  refine call_max_walk (iter_intTup hl fun s₂ e st hfp hlI => ?_)
  subst e
  refine ⟨_, _, _, _, _, _, _, rfl, Walks.tuple (A := A.in1) hR.hand _ a hlI (intItems (Mine.intsOf items.toList)), st, hfp, by simpa [intItems] using hz, CmpOf.ints_gt (numAt (Mine.intsOf items.toList)) (fun _ _ => intItems_at), fun v h' tk hP hk => ?_⟩
  obtain ⟨r, t, rfl, m1, m2⟩ := best_gt g2 hne (by simpa [intItems] using hP)
  exact kk_keeps kk hG (old_keptT hk) (VR.int _ _) (h r m1 m2)
theorem WpC_minT {xs : List Int} (hne : xs ≠ []) {Φ : V → List O → Prop} (h : ∀ r, r ∈ xs → (∀ x ∈ xs, r ≤ x) → Φ (.int r) σ) : WpC c n (.builtin "min") σ [.tup (xs.map V.int)] Φ := by
  intro A μ s vs Q E hR hG hv kk
  have kk : Kont c μ s Φ Q := kk
  obtain ⟨r1, w1, rfl, e1, e2⟩ := VRs.uncons hv
  rw [VRs.nil_inv e2]
  obtain ⟨a, items, q, rfl, h1, h2, h3⟩ := e1.tup_inv
  obtain ⟨g1, g2⟩ := VRs.intsOf h3
  rw [Array.toArray_toList] at g1
  have hl : s.heap.IsTuple a (intItems (Mine.intsOf items.toList)) := by rw [g1]; exact isTuple_of h2
  have hz : 0 < (Mine.intsOf items.toList).size := by
    have : (Mine.intsOf items.toList).toList ≠ [] := fun e => hne (by rw [← g2, e]; rfl)
    have := List.length_pos_iff.mpr this; simpa using this
  refine call_min_walk (iter_intTup hl fun s₂ e st hfp hlI => ?_)
  subst e
  refine ⟨_, _, _, _, _, _, _, rfl, Walks.tuple (A := A.in1) hR.hand _ a hlI (intItems (Mine.intsOf items.toList)), st, hfp, by simpa [intItems] using hz, CmpOf.ints_lt (numAt (Mine.intsOf items.toList)) (fun _ _ => intItems_at), fun v h' tk hP hk => ?_⟩
  obtain ⟨r, t, rfl, m1, m2⟩ := best_lt g2 hne (by simpa [intItems] using hP)
  exact kk_keeps kk hG (old_keptT hk) (VR.int _ _) (h r m1 m2)

theorem WpC_range1 {b : Int} {Φ : V → List O → Prop} (h : Φ (.rng 0 b) σ) : WpC c n (.type "range") σ [.int b] Φ := by
  intro A μ s vs Q E hR hG hv kk
  have kk : Kont c μ s Φ Q := kk
  obtain ⟨r1, w1, rfl, e1, e2⟩ := VRs.uncons hv
  rw [VRs.nil_inv e2]
  obtain ⟨t, rfl⟩ := e1.int_inv
  refine call_range_1 (kk.pushed hG h ?_)
  exact ⟨_, _, _, _, rfl, hG.size_off, IsRange.new _ _ _ _ _ _ _⟩
theorem WpC_range2 {a b : Int} {Φ : V → List O → Prop} (h : Φ (.rng a b) σ) : WpC c n (.type "range") σ [.int a, .int b] Φ := by
  intro A μ s vs Q E hR hG hv kk
  have kk : Kont c μ s Φ Q := kk
  obtain ⟨r1, w1, rfl, e1, e2⟩ := VRs.uncons hv
  obtain ⟨r2, w2, rfl, e3, e4⟩ := VRs.uncons e2
  rw [VRs.nil_inv e4]
  obtain ⟨t, rfl⟩ := e1.int_inv
  obtain ⟨u, rfl⟩ := e3.int_inv
  refine call_range_2 (kk.pushed hG h ?_)
  exact ⟨_, _, _, _, rfl, hG.size_off, IsRange.new _ _ _ _ _ _ _⟩
theorem WpC_tuple {xs : List V} {Φ : V → List O → Prop} (hz : xs.length ≤ sizeLine) (h : Φ (.tup xs) σ) : WpC c n (.type "tuple") σ [.lst xs] Φ := by
  intro A μ s vs Q E hR hG hv kk
  have kk : Kont c μ s Φ Q := kk
  obtain ⟨r1, w1, rfl, e1, e2⟩ := VRs.uncons hv
  rw [VRs.nil_inv e2]
  obtain ⟨a, items, q, rfl, h1, h2, h3⟩ := e1.lst_inv
  have hl := h3.length
  simp only [Array.length_toList] at hl
  refine call_tuple_list (isList_of h2) (fun h' hk => ?_) (by (first | lia | omega))
  refine kk_keeps (tk := s.toks) kk hG (fun b o e => Heap.get?_push_of_some _ (hk b o e)) (v := .tup xs) ?_ h
  have S := Step.of_keeps (μ := μ) hk
  exact new_tup (hG.keeps hk) (S.vrs h3)
theorem preSum_eq {ys : Array (Int × Tok)} {xs : List Int} (h : ys.toList.map (·.1) = xs) : ∀ k, k ≤ xs.length → preSum (numAt ys) k = (xs.take k).sum
  | 0, _ => rfl
  | k + 1, hk => by
    show preSum (numAt ys) k + numAt ys k = _
    rw [preSum_eq h k (by (first | lia | omega)), numAt_eq h, List.getElem?_eq_getElem (by (first | lia | omega)), List.take_succ, List.sum_append, List.getElem?_eq_getElem (by (first | lia | omega))]
    simp
theorem WpC_sumL {xs : List Int} {Φ : V → List O → Prop} (h : Φ (.int xs.sum) σ) : WpC c n (.builtin "sum") σ [.lst (xs.map V.int)] Φ := by
  intro A μ s vs Q E hR hG hv kk
  have kk : Kont c μ s Φ Q := kk
  obtain ⟨r1, w1, rfl, e1, e2⟩ := VRs.uncons hv
  rw [VRs.nil_inv e2]
  obtain ⟨a, items, q, rfl, h1, h2, h3⟩ := e1.lst_inv
  obtain ⟨g1, g2⟩ := VRs.intsOf h3
  rw [Array.toArray_toList] at g1
  have hl : s.heap.IsList a (intItems (Mine.intsOf items.toList)) := by rw [g1]; exact isList_of h2
  refine call_sum_walkAnyS (iter_intList hl fun s₂ e st hfp hlI => ?_)
  subst e
  refine ⟨_, _, _, _, _, _, _, numAt (Mine.intsOf items.toList), rfl, (Walks.list (A := A.in1) hR.hand _ a hlI (intItems (Mine.intsOf items.toList))).toS, st, hfp, (fun _ _ => intItems_at), fun s' t' hm => ?_⟩
  have hz : (intItems (Mine.intsOf items.toList)).size = xs.length := by
    have := congrArg List.length g2
    simpa [intItems] using this
  rw [hz, preSum_eq g2 _ (Nat.le_refl _), List.take_length]
  obtain ⟨hm1, hm2, hm3, hm4, hm5⟩ := hm
  obtain ⟨h', g', d', tk', o'⟩ := s'
  simp only at hm1 hm2 hm3 hm4 hm5
  subst hm3; subst hm4
  cases hm2
  exact kk_keeps kk hG (old_keptT (h' := h') hm1) (VR.int _ _) h
end
end Mine
end

/-! part L17 -/
section
open PySem PySem.W PySem.Calls PyProof.Rows
set_option Elab.async false
set_option autoImplicit false
set_option linter.all false
set_option maxRecDepth 100000
namespace Mine

section
variable {c : Cx} {n : Nat} {sc : Scope} {m : Loc} {σ : List O}

/-- isinstance(e, tuple) and isinstance(e, bool) -/
noncomputable def IsiOk (T : String) (v : V) (k : Bool → Prop) : Prop := match v with
  | .int _ => k false
  | .bool _ => k (T == "bool")
  | .tup _ => k (T == "tuple")
  | _ => False
theorem isi_sound {A : Around} {T : String} (hT : T = "tuple" ∨ T = "bool") {v : V} {r : Value} {μ : List Addr} {s : Shared} {Φ : V → List O → Prop} {Q : Value → Shared → Prop} {E : Value → Shared → Prop}
    (hG : HG c μ σ s.heap) (hv : VR s.heap μ v r) (h : IsiOk T v fun b => Φ (.bool b) σ) (kk : Kont c μ s Φ Q) : wpAny (model c.prog c.w) A (call (.builtin "isinstance") [r, .type T]) Q E s := by
  have fin : ∀ {b : Bool} {tk : Nat}, Φ (.bool b) σ → Q (.bool b) { s with toks := tk } := fun h => kk.same hG h (VR.bool _)
  have fin0 : ∀ {b : Bool}, Φ (.bool b) σ → Q (.bool b) s := fun h => kk.here hG h (VR.bool _)
  cases v with
  | int j =>
    obtain ⟨t, rfl⟩ := hv.int_inv
    rcases hT with rfl | rfl
    · exact IsiPair.int_tuple (fin h)
    · exact IsiPair.int_bool (fin h)
  | bool b =>
    rw [hv.bool_inv]
    rcases hT with rfl | rfl
    · exact IsiPair.bool_tuple (fin h)
    · exact IsiPair.bool_bool (fin0 h)
  | tup xs =>
    obtain ⟨a, items, q, rfl, h1, h2, h3⟩ := hv.tup_inv
    rcases hT with rfl | rfl
    · exact IsiPair.tuple_tuple h2 rfl (fin0 h)
    · exact IsiPair.tuple_bool h2 rfl (fin h)
  | _ => exact h.elim

theorem WpE_isinstance {T : String} {x : Str} {e : Expr} {p1 p2 pos : Pos} {Φ : V → List O → Prop} (hT : T = "tuple" ∨ T = "bool") (g1 : Glo c "isinstance" (.builtin "isinstance")) (g2 : Glo c x (.type T))
    (h : WpE c n sc m σ e fun v σ₁ => IsiOk T v fun b => Φ (.bool b) σ₁)
    (hl : sc.names.lookup ("isinstance" : Str) = some .globalImplicit := by decide +kernel) (hl2 : sc.names.lookup x = some .globalImplicit := by decide +kernel) (hd2 : (x == ("__debug__" : Str)) = false := by decide +kernel) (hs : plainEs [e, .Name x p2] := by intro _ _; rfl) :
    WpE c n sc m σ (.Call (.Name "isinstance" p1) [e, .Name x p2] [] pos) Φ := by
  intro A env μ s Q E hR hG hF kk
  refine Call_ (glo_sound hG hF g1 hl (by decide +kernel) (callWith_any (c := c) trivial hs (Calls.spliced_cons (h A env μ s _ E hR hG hF fun r v σ₁ μ₁ h₁ tk₁ hx S₁ G₁ V₁ => ?_))))
  refine Calls.spliced_cons (glo_sound G₁ (hF.step S₁) g2 hl2 hd2 (Calls.spliced_nil ⟨G₁.kin, ?_⟩))
  exact isi_sound (s := { s with heap := h₁, toks := tk₁ }) hT G₁ V₁ hx fun r v σ' μ' h' tk hΦ S' G' V' => kk r v σ' μ' h' tk hΦ (S₁.trans S') G' V'

/-! sorted -/
noncomputable def KeysAre (c : Cx) (kvs : List (Int × Value)) (i : Nat) (v : Value) : Prop := ∃ k x, kvs[i]? = some (k, x) ∧ (intKind c.prog c.w).is k v = true
theorem intKind_inv {prog : Program} {w : World} {k : Int} {v : Value} (h : (intKind prog w).is k v = true) : ∃ t, v = .int k t := by
  have h : Value.isInt k v = true := h
  cases v with
  | int i t => have : i = k := by simpa [Value.isInt] using h
               subst this; exact ⟨_, rfl⟩
  | _ => simp [Value.isInt] at h
theorem intsAre_keys {prog : Program} {w : World} {kvs : List (Int × Value)} {acc : Array Value} (h : ItemsOf (fun i v => ∃ k x, kvs[i]? = some (k, x) ∧ (intKind prog w).is k v = true) acc kvs.length) : IntsAre acc.toList (kvs.map (·.1)) := by
  obtain ⟨h1, h2⟩ := h
  have key : ∀ (vs : List Value) (kvs : List (Int × Value)), vs.length = kvs.length → (∀ (j : Nat) v, vs[j]? = some v → ∃ k x, kvs[j]? = some (k, x) ∧ (intKind prog w).is k v = true) → IntsAre vs (kvs.map (·.1)) := by
    intro vs
    induction vs with
    | nil => intro kvs hl _; cases kvs with
             | nil => exact .nil
             | cons _ _ => simp at hl
    | cons v vs ih =>
      intro kvs hl hj
      cases kvs with
      | nil => simp at hl
      | cons kv kvs =>
        obtain ⟨k, x, e1, e2⟩ := hj 0 v rfl
        simp at e1; subst e1
        obtain ⟨t, rfl⟩ := intKind_inv e2
        exact IntsAre.cons _ _ (ih kvs (by simpa using hl) fun j v hv => by simpa using hj (j + 1) v (by simpa using hv))
  exact key _ _ (by simpa using h1) fun j v hv => h2 j v (by simpa using hv)
theorem VRs.of_ints {h : Heap} {μ : List Addr} : ∀ {vs : List Value} {ns : List Int}, IntsAre vs ns → VRs h μ (ns.map V.int) vs
  | _, _, .nil => VRs.nil
  | _, _, .cons _ _ r => VRs.cons (VR.int _ _) (VRs.of_ints r)

/-- sorted(d), d a dict whose keys are ints -/
theorem WpC_sortedD {i : Nat} {es : List (Int × V)} {Φ : V → List O → Prop} (hi : σ[i]? = some (.idict es)) (hz : es.length < 64) (h : ∀ ns : List Int, ns.Perm (es.map (·.1)) → ns.Pairwise (· ≤ ·) → Φ (.lst (ns.map V.int)) σ) : WpC c n (.builtin "sorted") σ [.ref i] Φ := by
  intro A μ s vs Q E hR hG hv kk
  have kk : Kont c μ s Φ Q := kk
  obtain ⟨r1, w1, rfl, e1, e2⟩ := VRs.uncons hv
  rw [VRs.nil_inv e2]
  obtain ⟨d, rfl, hd⟩ := e1.ref_inv
  obtain ⟨kvs, g1, g2, g3⟩ := hG.rel _ _ _ hi hd
  have hsys := hG.sys (List.mem_of_getElem? hd)
  have hl : kvs.length = es.length := by have := congrArg List.length g2; simpa using this
  obtain ⟨ep, hat⟩ := g1.dictAt
  refine call_function_entry kind_sorted plain_sorted entry_sorted (args_sorted1 _) ?_
  unfold Builtin.«sorted»
  refine wpAny_bind (m := checkCount "sorted" 1 1 _) (wpAny_pure ?_)
  refine wpAny_bind (kdu_collect (A := A.in1) (kdl_dict (knd := intKind c.prog c.w) (kvs := kvs) (ep := ep) hsys) hR.hand hat (by unfold sizeLine; (first | lia | omega)) fun h' tk acc hk hacc => ?_)
  have hI := intsAre_keys hacc
  have hal : acc.toList.length = kvs.length := by rw [Array.length_toList]; exact hacc.1
  refine wpAny_bind (wpAny_newList ?_ (by rw [hal]; unfold sizeLine; (first | lia | omega)))
  have hoL : (h'.push (seqObj "list" acc.toList.toArray 0)).get? h'.objs.size = some (seqObj "list" acc.toList.toArray 0) := Heap.get?_push_size _ rfl
  show wpAny _ _ _ _ _ { s with heap := h'.push (seqObj "list" acc.toList.toArray 0), toks := tk }
  refine wpAny_bind (wpAny_holding (wpAny_call_entry slot_list_sort ⟨_, hoL, rfl⟩ entry_list_sort (list_sort_tree hoL hI (by (first | lia | omega)) fun out ns' a1 a2 a3 => ⟨_, rfl, ?_⟩) (args_list_sort _)))
  refine wpAny_pure ⟨_, rfl, ?_⟩
  obtain ⟨e, he⟩ := sortedHeap_at (out := out) hoL
  have keep : ∀ b o, s.heap.get? b = some o → (sortedHeap (h'.push (seqObj "list" acc.toList.toArray 0)) h'.objs.size acc.toList out).get? b = some o := fun b o q => by
    have q' := hk b o q
    have hlt := Heap.lt_size q'
    rw [sortedHeap_old (Nat.ne_of_lt hlt) (by rw [size_push']; exact Nat.lt_succ_of_lt hlt)]
    exact Heap.get?_push_of_some _ q'
  have hoff : h'.objs.size ∉ μ := fun hm => by
    obtain ⟨o, ho⟩ := hG.alive hm
    exact absurd (Heap.lt_size (hk _ _ ho)) (Nat.lt_irrefl _)
  refine kk_keeps (h' := sortedHeap (h'.push (seqObj "list" acc.toList.toArray 0)) h'.objs.size acc.toList out) (v := .lst (ns'.map V.int)) kk hG keep (VR.lst hoff he (VRs.of_ints a1)) (h ns' (by rw [← g2]; exact a2) a3)

end
end Mine
end

/-! part L18 -/
section
open PySem PySem.W PySem.Calls PyProof.Rows
set_option Elab.async false
set_option autoImplicit false
set_option linter.all false
set_option maxRecDepth 100000
namespace Mine

section
variable {c : Cx} {n : Nat} {sc : Scope} {m : Loc} {σ : List O}

/-- one new tracked object -/
theorem HG.fresh1 {μ : List Addr} {h h' : Heap} (G : HG c μ σ h) (hk : ∀ a o, h.get? a = some o → h'.get? a = some o) {d : Addr} (hd : h.get? d = none) (hd1 : 1 < d) {x : O} (e : OR c h' (μ ++ [d]) x d) :
    HG c (μ ++ [d]) (σ ++ [x]) h' ∧ Step [] μ h (μ ++ [d]) h' := by
  have S : Step [] μ h (μ ++ [d]) h' := ⟨fun a o' q => ⟨o', hk _ _ q⟩, ⟨_, rfl, fun a ha => by rw [List.mem_singleton.mp ha]; exact hd⟩, fun a o' q _ _ => hk _ _ q⟩
  refine ⟨⟨G.ok, fun a o' q => hk _ _ (G.base a o' q), ?_, ?_, by simp [G.len], ?_⟩, S⟩
  · intro a ha
    rcases List.mem_append.mp ha with ha | ha
    · exact G.new a ha
    · rw [List.mem_singleton.mp ha]; exact ⟨G.fresh hd, hd1⟩
  · refine List.nodup_append.mpr ⟨G.nodup, (by simp), fun a ha b hb => ?_⟩
    rw [List.mem_singleton.mp hb]
    rintro rfl
    obtain ⟨o, ho⟩ := G.alive ha
    rw [hd] at ho; cases ho
  · intro i y a h1 h2
    by_cases hi : i < σ.length
    · rw [List.getElem?_append_left hi] at h1
      rw [List.getElem?_append_left (G.len ▸ hi)] at h2
      exact (G.rel i y a h1 h2).mono S.keep0 fun o' q => hk _ _ q
    · have hi' : i = σ.length := by
        have := (List.getElem?_eq_some_iff.mp h1).1
        simp at this; (first | lia | omega)
      subst hi'
      rw [List.getElem?_append_right (Nat.le_refl _)] at h1
      rw [G.len, List.getElem?_append_right (Nat.le_refl _)] at h2
      simp at h1 h2
      subst h1; subst h2
      exact e

theorem noKeys_tuple : typeLookup (.type "tuple") "keys" = pure none := by rw [typeLookup_type, builtinLookup_eq_fast]; kernel_rfl

/-- a tuple has no attribute keys -/
theorem noKeys {prog : Program} {w : World} {A : Around} {E : Value → Shared → Prop} {s : Shared} {a : Addr} {xs : Array Value} {k : Nat} {Q : Option Value → Shared → Prop} (hA : A.handled = none) (hx : s.heap.get? a = some (tupO xs k))
    (h : ∀ h' tk, (∀ b o, s.heap.get? b = some o → h'.get? b = some o) → Q none { s with heap := h', toks := tk }) : wpAny (model prog w) A (getAttr? (.ref a) "keys") Q E s := by
  obtain ⟨hp, g, d, tk, os⟩ := s
  have hT : ∀ tk', (⟨hp, g, d, tk', os⟩ : Shared).TypeIs (.ref a) "tuple" := fun _ => ⟨_, hx, rfl⟩
  have f1 := sub_AttributeError
  have f3 := F.slot_tuple_getattribute.lookup
  have f4 := F.slot_tuple_getattribute.bind (.ref a)
  have f5 := am_tuple_getattr_none
  unfold getAttr? getAttrBy? getAttrBy
  repeat (any_goals (first | assumption | exact hT _ | ((with_reducible show wpAny _ _ (call (Value.builtin "tuple.__getattribute__") _ _) _ _ _); refine call_meets F.slot_tuple_getattribute (hT _) am_entry_tuple_getattribute (F.args_tuple_getattribute_2 _ _) (meets_getattribute_miss_tuple a xs k #[] _ _ noKeys_tuple (by decide +kernel) (by decide +kernel)) ⟨hx, hA, fun h' tk' e hx' => ?_⟩) | wp_step))
  obtain ⟨t', u', he⟩ := hx'.there
  show wpAny _ _ (getattributeRaised _ _ _ _ _ _ _) _ _ _
  unfold getattributeRaised
  repeat (any_goals (first | assumption | wp_step))
  all_goals exact h _ _ hx'.keeps

theorem entry_dict_update_loop : entryFor table "dict.update.loop" = some Builtin.«dict.update.loop» := entryFor_of_tree (by kernel_rfl)
theorem plain_dict_update_loop : plainId "dict.update.loop" = true := by decide +kernel
noncomputable def pairsV (es : List (Int × V)) : List V := es.map fun e => .tup [.int e.1, e.2]

theorem dict_loop {A : Around} {R : Result → Shared → Prop} {μ : List Addr} {hb : Heap} {I a d : Addr} {items : Array Value} {q : Nat} (hA : A.handled = none) (hT : hb.get? a = some (tupO items q)) (hI : hb.get? I = none) (hd : hb.get? d = none) (hId : I ≠ d) (ham : a ∉ μ) :
    ∀ (rest : List (Int × V)) (done : List (Int × V)) (i : Nat) (j : Value) (s : Shared) (kvs : List (Int × Value)), (∃ jj, j = rawInt jj) → VRs hb μ (pairsV rest) (items.toList.drop i) → (∀ b o, hb.get? b = some o → s.heap.get? b = some o) → s.heap.IsTupleIter I a i →
      s.heap.DictOf (intKind c.prog c.w) d kvs → kvs.map (·.1) = done.map (·.1) → VRs hb μ (done.map (·.2)) (kvs.map (·.2)) → ((done ++ rest).map (·.1)).Nodup → (done ++ rest).length < 1000000 →
      (∀ h' tk kvs', (∀ b o, hb.get? b = some o → h'.get? b = some o) → h'.DictOf (intKind c.prog c.w) d kvs' → kvs'.map (·.1) = (done ++ rest).map (·.1) → VRs hb μ ((done ++ rest).map (·.2)) (kvs'.map (·.2)) → R (.ok (.ret .none)) { s with heap := h', toks := tk }) →
      codeAny (model c.prog c.w) A (.builtin "dict.update.loop" ⟨[.ref d, .ref I, j, .none], []⟩) R s
  | [], done, i, j, s, kvs, ⟨jj, hj⟩, hv, hk, hit, hD, h1, h2, nd, hz, kk => by
    subst hj
    refine codeAny_builtin entry_dict_update_loop ?_
    rw [Around.under_plainId plain_dict_update_loop _]
    show wpAny _ A.in1 (pyNext (.ref I) >>= _) _ _ s
    have hn : items.toList.drop i = [] := VRs.nil_inv hv
    refine wpAny_bind (wpAny_pyNext_tuple_end hA hit (isTuple_of (hk _ _ hT)) (by rw [← Array.getElem?_toList]; exact drop_nil hn) fun h' he => ?_)
    have hdl : d ≠ I := fun e => hId e.symm
    refine wpAny_bind (wpAny_pure ?_)
    refine wpAny_pure ?_
    have := kk h' s.toks kvs (fun b o e => he b o (fun e' => by rw [e', hI] at e; cases e) (hk b o e)) ?_ (by simpa using h1) (by simpa using h2)
    · exact this
    · obtain ⟨o, es, ep, e1, e2⟩ := hD
      exact ⟨o, es, ep, he _ _ hdl e1, e2⟩
  | (k, v) :: rest, done, i, j, s, kvs, ⟨jj, hj⟩, hv, hk, hit, hD, h1, h2, nd, hz, kk => by
    subst hj
    refine codeAny_builtin entry_dict_update_loop ?_
    rw [Around.under_plainId plain_dict_update_loop _]
    show wpAny _ A.in1 (pyNext (.ref I) >>= _) _ _ s
    obtain ⟨r, ws, e1, e2, e3⟩ := VRs.uncons (show VRs hb μ (V.tup [.int k, v] :: pairsV rest) _ from hv)
    obtain ⟨d1, d2⟩ := drop_uncons e1
    obtain ⟨T, its, tq, rfl, _, t2, t3⟩ := e2.tup_inv
    obtain ⟨ra, ws', f1, f2, f3⟩ := VRs.uncons t3
    obtain ⟨rb, ws'', g1, g2, g3⟩ := VRs.uncons f3
    rw [VRs.nil_inv g3] at g1
    subst g1
    obtain ⟨tk1, rfl⟩ := f2.int_inv
    have hits : its = #[.int k tk1, rb] := by apply Array.toList_inj.mp; rw [f1]
    subst hits
    refine wpAny_bind (wpAny_pyNext_tuple_item hit (isTuple_of (hk _ _ hT)) (by rw [← Array.getElem?_toList]; exact d1) fun h' hi hs => ?_)
    have neI : ∀ {b o}, hb.get? b = some o → b ≠ I := fun e e' => by rw [e', hI] at e; cases e
    have hk' : ∀ b o, hb.get? b = some o → h'.get? b = some o := fun b o e => (hs.2 b (neI e)).trans (hk b o e)
    have hdl : d ≠ I := fun e => hId e.symm
    have hD' : h'.DictOf (intKind c.prog c.w) d kvs := by obtain ⟨o, es, ep, q1, q2⟩ := hD; exact ⟨o, es, ep, (hs.2 _ hdl).trans q1, q2⟩
    refine wpAny_bind (wpAny_holding ?_)
    have hTT : h'.get? T = some (tupO #[.int k tk1, rb] tq) := hk' _ _ t2
    refine wpAny_bind (wpAny_tryCatch ?_)
    show wpAny _ _ (Builtin.Dict.pairItems (.ref T)) _ _ _
    unfold Builtin.Dict.pairItems
    refine wpAny_bind (wpAny_typeOf (s := { s with heap := h' }) (T := "tuple") ⟨_, hTT, rfl⟩ ?_)
    show wpAny _ _ (if (Value.type "tuple" == Value.type "list" || Value.type "tuple" == Value.type "tuple") = true then _ else _) _ _ _
    rw [if_pos (by decide)]
    refine wpAny_bind (wpAny_seqItems hTT rfl (wpAny_pure ?_))
    show wpAny _ _ (holding [Value.int k tk1, rb] (dictSet d (.int k tk1) rb)) _ _ _
    have hkl : kvs.length = done.length := by have := congrArg List.length h1; simpa using this
    refine wpAny_holding (wpAny_dictSet_pairs (intKind_is _ _ k tk1) hD' (fun h'' hD'' hs'' => ?_) (by unfold sizeLine; simp at hz; (first | lia | omega)))
    have ned : ∀ {b o}, hb.get? b = some o → b ≠ d := fun e e' => by rw [e', hd] at e; cases e
    have sr := stored_real (k := k) h1 h2 g2
    have hnew : getK done k = none := by
      cases q : getK done k with
      | none => rfl
      | some w =>
        exfalso
        have h3 : done.any (fun e => decide (e.1 = k)) = true := by rw [← getK_some, q]; rfl
        obtain ⟨e, he1, he2⟩ := List.any_eq_true.mp h3
        rw [List.map_append] at nd
        have := (List.nodup_append.mp nd).2.2 k (by rw [← of_decide_eq_true he2]; exact List.mem_map_of_mem he1) k (by simp)
        exact this rfl
    have hput : putK done k v = done ++ [(k, v)] := by unfold putK; rw [hnew]; rfl
    rw [hput] at sr
    refine wpAny_pure ⟨plainId_quiet plain_dict_update_loop _, dict_loop hA hT hI hd hId ham rest (done ++ [(k, v)]) (i + 1) _ { s with heap := h'', toks := s.toks + 1 } (stored kvs k rb) ⟨_, rfl⟩ (by rw [d2]; exact e3) (fun b o e => (hs''.2 b (ned e)).trans (hk' b o e))
      (by obtain ⟨o, q1, q2⟩ := hi; exact ⟨o, (hs''.2 I hId).trans q1, q2⟩) hD'' sr.1 sr.2 (by simpa using nd) (by simpa using hz) fun h3 tk3 kvs' p1 p2 p3 p4 => ?_⟩
    exact kk h3 tk3 kvs' p1 p2 (by simpa using p3) (by simpa using p4)

theorem WpC_dict {es : List (Int × V)} {Φ : V → List O → Prop} (nd : (es.map (·.1)).Nodup) (hz : es.length < 1000000) (h : Φ (.ref σ.length) (σ ++ [.idict es])) : WpC c n (.type "dict") σ [.tup (pairsV es)] Φ := by
  intro A μ s vs Q E hR hG hv kk
  have kk : Kont c μ s Φ Q := kk
  obtain ⟨r1, w1, rfl, e1, e2⟩ := VRs.uncons hv
  rw [VRs.nil_inv e2]
  obtain ⟨a, items, q, rfl, ham, hT, h3⟩ := e1.tup_inv
  refine callType_codes (Q₁ := fun obj s₁ => obj = .ref s.heap.objs.size ∧ s₁ = { s with heap := s.heap.push { cls := .type "dict", data := .dict #[] } }) F.kt_called_dict (F.kt_typeCall_dict_1 _) F.entry_dict_init (kt_code_dict_new _ ⟨rfl, rfl⟩) ?_
  rintro obj s₁ ⟨rfl, rfl⟩
  have hnew : (s.heap.push { cls := .type "dict", data := .dict #[] }).DictOf (intKind c.prog c.w) s.heap.objs.size [] := Heap.DictOf.new s.heap
  have hT1 : (s.heap.push { cls := .type "dict", data := .dict #[] }).get? a = some (tupO items q) := Heap.get?_push_of_some _ hT
  refine ⟨hnew.typeIs, F.args_dict_init_2 _ _, ?_⟩
  unfold Builtin.«dict.__init__»
  refine wpAny_bind ?_
  unfold Builtin.Dict.selfAndRest
  refine wpAny_bind (wpAny_notOrdered_dict hnew.typeIs ?_)
  show wpAny _ _ (pure (s.heap.objs.size, [Value.ref a])) _ _ _
  refine wpAny_pure ?_
  show wpAny _ _ (Builtin.Dict.updateFrom "dict.__init__" s.heap.objs.size (.ref a) [] .none) _ _ _
  unfold Builtin.Dict.updateFrom
  refine wpAny_bind (wpAny_typeOf (s := { s with heap := s.heap.push { cls := .type "dict", data := .dict #[] } }) (T := "tuple") ⟨_, hT1, rfl⟩ ?_)
  rw [if_pos (by decide)]
  refine wpAny_bind (noKeys (s := { s with heap := s.heap.push { cls := .type "dict", data := .dict #[] } }) hR.hand hT1 fun h₁ tk₁ hk₁ => ?_)
  show wpAny _ _ (rule _ >>= _) _ _ _
  refine wpAny_bind (wpAny_rule ?_)
  have hT2 : h₁.get? a = some (tupO items q) := hk₁ _ _ hT1
  refine wpAny_bind (wpAny_pyIter_tuple (s := { s with heap := h₁, toks := tk₁ }) (isTuple_of hT2) ?_)
  have hold : ∀ b o, s.heap.get? b = some o → (h₁.push { cls := .type "tuple_iterator", data := .fields #[.ref a, .int 0 0] }).get? b = some o := fun b o e => Heap.get?_push_of_some _ (hk₁ _ _ (Heap.get?_push_of_some _ e))
  have hdl : s.heap.objs.size < h₁.objs.size := by
    obtain ⟨o, es, ep, e1, _⟩ := hnew
    exact Heap.lt_size (hk₁ _ _ e1)
  have hI : s.heap.get? h₁.objs.size = none := by
    cases q : s.heap.get? h₁.objs.size with
    | none => rfl
    | some o => exact absurd (Nat.lt_trans (Heap.lt_size q) hdl) (Nat.lt_irrefl _)
  refine wpAny_pure ⟨plainId_quiet plain_dict_update_loop _, dict_loop (c := c) (hb := s.heap) (μ := μ) (A := A.in1) hR.hand hT hI (get_size _) (Nat.ne_of_gt hdl) ham es [] 0 _ { s with heap := h₁.push { cls := .type "tuple_iterator", data := .fields #[.ref a, .int 0 0] }, toks := tk₁ } [] ⟨_, rfl⟩ (by simpa using h3) hold ⟨_, Heap.get?_push_size _ rfl, rfl, rfl⟩
    (by obtain ⟨o, es, ep, e1, e2⟩ := hnew; exact ⟨o, es, ep, Heap.get?_push_of_some _ (hk₁ _ _ e1), e2⟩) rfl VRs.nil (by simpa using nd) (by simpa using hz) fun h' tk kvs' p1 p2 p3 p4 => ?_⟩
  refine ⟨rfl, ?_⟩
  have S0 : Keep μ s.heap (μ ++ [s.heap.objs.size]) h' := ⟨⟨_, rfl, fun x hx => by rw [List.mem_singleton.mp hx]; exact get_size _⟩, fun x o e _ _ => p1 x o e⟩
  obtain ⟨G', S'⟩ := hG.fresh1 (x := .idict es) p1 (get_size _) hG.two ⟨kvs', p2, by simpa using p3, VRs.mono S0 _ _ (by simpa using p4)⟩
  refine kk _ _ _ _ h' tk h S' G' ?_
  exact ⟨_, rfl, by rw [hG.len, List.getElem?_append_right (Nat.le_refl _)]; simp⟩

end
end Mine
end

/-! part L19 -/
section
open PySem PySem.W PySem.Calls PyProof.Rows
set_option Elab.async false
set_option autoImplicit false
set_option linter.all false
set_option maxRecDepth 100000
namespace Mine

/-! ### zip of two tuples -/
section
variable {prog : Program} {w : World} {A : Around} {E : Value → Shared → Prop} {s : Shared}

theorem nextOfT {it t : Addr} {i : Nat} {items : Array Value} {x : Value} {Q : Value → Shared → Prop} (hit : s.heap.IsTupleIter it t i) (ht : s.heap.IsTuple t items) (hx : items[i]? = some x)
    (hQ : ∀ h', h'.IsTupleIter it t (i + 1) → Heap.SameBut it s.heap h' → Q x { s with heap := h' }) : wpAny (model prog w) A (Builtin.SmallTypes.nextOf (.ref it)) Q E s := by
  obtain ⟨o, ho, hc, hd⟩ := id hit
  obtain ⟨ol, hol, _, nl, hdl⟩ := ht
  unfold Builtin.SmallTypes.nextOf
  refine wpAny_bind (wpAny_callSpecial?_slot (name := Str.ofString "__next__") hit.typeIs F.slot_tuple_iterator_next (wpAny_call_entry F.slot_tuple_iterator_next hit.typeIs F.entry_tuple_iterator_next ?_ (F.args_tuple_iterator_next_1 _)))
  show wpAny _ _ (field (.ref it) 0 >>= _) _ _ s
  refine wpAny_bind (wpAny_field ho hd (x := .ref t) rfl ?_)
  show wpAny _ _ (if (Value.ref t == Value.none) = true then _ else _) _ _ s
  rw [if_neg (show ¬ ((Value.ref t == Value.none) = true) from Bool.false_ne_true)]
  show wpAny _ _ (field (.ref it) 1 >>= _) _ _ s
  refine wpAny_bind (wpAny_field ho hd (x := .int i 0) rfl ?_)
  show wpAny _ _ (seqItems? (.ref t) >>= _) _ _ s
  refine wpAny_bind (wpAny_seqItems hol hdl ?_)
  simp only [Int.toNat_natCast, hx]
  refine wpAny_bind (wpAny_setField ho hd (by simp) (wpAny_pure ⟨x, rfl, wpAny_pure (hQ _ ?_ (Heap.SameBut.update ..))⟩))
  exact ⟨_, Heap.get?_update_self _ ho (Obj.isFreed_of_fields (Obj.data_mapFields hd _)), (Obj.cls_mapFields ..).trans hc, by
    rw [Obj.data_mapFields hd]; simp [rawInt]⟩
theorem nextOfT_end {it t : Addr} {i : Nat} {items : Array Value} {Q : Value → Shared → Prop} (hh : A.handled = none) (hit : s.heap.IsTupleIter it t i) (ht : s.heap.IsTuple t items) (hx : items[i]? = none)
    (hE : ∀ h' e, Heap.ExtBut it s.heap h' → (∃ o, h'.get? e = some o ∧ o.cls = .type "StopIteration") → E (.ref e) { s with heap := h' }) : wpAny (model prog w) A (Builtin.SmallTypes.nextOf (.ref it)) Q E s := by
  obtain ⟨o, ho, hc, hd⟩ := id hit
  obtain ⟨ol, hol, _, nl, hdl⟩ := ht
  unfold Builtin.SmallTypes.nextOf
  refine wpAny_bind (wpAny_callSpecial?_slot (name := Str.ofString "__next__") hit.typeIs F.slot_tuple_iterator_next (wpAny_call_entry F.slot_tuple_iterator_next hit.typeIs F.entry_tuple_iterator_next ?_ (F.args_tuple_iterator_next_1 _)))
  show wpAny _ _ (field (.ref it) 0 >>= _) _ _ s
  refine wpAny_bind (wpAny_field ho hd (x := .ref t) rfl ?_)
  show wpAny _ _ (if (Value.ref t == Value.none) = true then _ else _) _ _ s
  rw [if_neg (show ¬ ((Value.ref t == Value.none) = true) from Bool.false_ne_true)]
  show wpAny _ _ (field (.ref it) 1 >>= _) _ _ s
  refine wpAny_bind (wpAny_field ho hd (x := .int i 0) rfl ?_)
  show wpAny _ _ (seqItems? (.ref t) >>= _) _ _ s
  refine wpAny_bind (wpAny_seqItems hol hdl ?_)
  simp only [Int.toNat_natCast, hx]
  refine wpAny_bind (wpAny_rule (wpAny_bind (wpAny_setField ho hd (by simp) ?_)))
  show wpAny _ _ (newExc (.type "StopIteration") [] >>= _) _ _ _
  refine wpAny_bind ?_
  simp only [newExc, newTuple]
  refine wpAny_bind (wpAny_newObj_type ?_ (by size_fits))
  refine wpAny_bind (m := firstArgMember _ _) (wpAny_of_eq (a := Value.none) (by first | rfl | (simp only [firstArgMember]; rfl)) ?_)
  refine wpAny_newObj_type ?_ (by size_fits)
  simp only [raiseNew]
  refine wpAny_bind (wpAny_handled ?_)
  first | rw [show A.in1.handled = none from hh] | rw [hh]
  refine wpAny_bind (wpAny_pure (wpAny_throw ?_))
  exact hE _ _ (((Heap.SameBut.update ..).extBut.push _).push _) ⟨_, Heap.get?_push_size _ rfl, rfl⟩

/-- a zip at rest, over two tuples -/
structure Zs (h : Heap) (z TI TO i1 i2 l1 l2 : Addr) (xs ys : Array Value) (k : Nat) : Prop where
  D : ZipApart z TI TO i1 i2 l1 l2
  z : IsZip h z TI TO .none
  TI : IsPair h TI (.ref i1) (.ref i2)
  TO : ∃ a b, IsPair h TO a b
  i1 : h.IsTupleIter i1 l1 k
  i2 : h.IsTupleIter i2 l2 k
  l1 : h.IsTuple l1 xs
  l2 : h.IsTuple l2 ys
noncomputable def Out4 (z TO i1 i2 : Addr) (h h' : Heap) : Prop := ∀ b o, b ≠ z → b ≠ TO → b ≠ i1 → b ≠ i2 → h.get? b = some o → h'.get? b = some o
theorem Out4.trans {z TO i1 i2 : Addr} {h h' h'' : Heap} (a : Out4 z TO i1 i2 h h') (b : Out4 z TO i1 i2 h' h'') : Out4 z TO i1 i2 h h'' := fun x o e1 e2 e3 e4 e => b x o e1 e2 e3 e4 (a x o e1 e2 e3 e4 e)
theorem Out4.of {z TO i1 i2 a : Addr} {h h' : Heap} (s : Heap.SameBut a h h') (ha : a = z ∨ a = TO ∨ a = i1 ∨ a = i2) : Out4 z TO i1 i2 h h' := fun x o e1 e2 e3 e4 e => (s.2 x (by rintro rfl; rcases ha with q | q | q | q; exact e1 q; exact e2 q; exact e3 q; exact e4 q)).trans e

theorem zipT_item {z TI TO i1 i2 l1 l2 : Addr} {xs ys : Array Value} {k : Nat} {x y : Value} {Q : Option Value → Shared → Prop} (Z : Zs s.heap z TI TO i1 i2 l1 l2 xs ys k) (hx : xs[k]? = some x) (hy : ys[k]? = some y)
    (hQ : ∀ h', IsZip h' z TI TO (rawInt s.heap.objs.size) → (∃ a b, IsPair h' TO a b) → h'.IsTupleIter i1 l1 (k + 1) → h'.IsTupleIter i2 l2 (k + 1) → IsPair h' s.heap.objs.size x y → Out4 z TO i1 i2 s.heap h' → Q (some (.ref s.heap.objs.size)) { s with heap := h' }) :
    wpAny (model prog w) A (pyNext (.ref z)) Q E s := by
  obtain ⟨D, hz, hTI, ⟨a, b, hTO⟩, h1, h2, hl1, hl2⟩ := Z
  have hT : s.TypeIs (.ref z) "zip" := ⟨_, hz, rfl⟩
  unfold pyNext
  refine wpAny_bind (wpAny_attempt (wpAny_callSpecial?_slot (name := Str.ofString "__next__") hT F.slot_zip_next (wpAny_call_entry F.slot_zip_next hT F.entry_zip_next ?_ (F.args_zip_next_1 _))))
  show wpAny _ _ (field (.ref z) 2 >>= _) _ _ _
  refine wpAny_bind (wpAny_field hz rfl (x := .bool false) rfl ?_)
  show wpAny _ _ (field (.ref z) 3 >>= _) _ _ _
  refine wpAny_bind (wpAny_field hz rfl (x := .ref TI) rfl ?_)
  refine wpAny_bind (wpAny_seqItems hTI rfl ?_)
  show wpAny _ _ (Builtin.SmallTypes.ownedTupleIsFree (.ref z) >>= _) _ _ _
  refine wpAny_bind ?_
  unfold Builtin.SmallTypes.ownedTupleIsFree
  refine wpAny_bind (wpAny_field hz rfl (x := .none) rfl (wpAny_pure ?_))
  simp only [if_true]
  refine wpAny_bind (wpAny_rule ?_)
  refine wpAny_bind (wpAny_field hz rfl (x := .ref TO) rfl ?_)
  refine wpAny_bind (wpAny_setField_rec hz (by simp) fun h₁ hz₁ hs₁ => ?_)
  replace hz₁ : IsZip h₁ z TI TO .ellipsis := hz₁
  refine wpAny_bind ?_
  simp only [List.zipIdx_cons, List.zipIdx_nil, List.forIn_cons, List.forIn_nil]
  refine wpAny_bind (wpAny_bind (wpAny_onRaise ?_))
  show wpAny _ _ (Builtin.SmallTypes.nextOf (.ref i1) >>= _) _ _ _
  refine wpAny_bind (nextOfT (h1.extBut hs₁.extBut D.i1z) (hl1.extBut hs₁.extBut D.l1z) hx fun h₂ h1₂ hs₂ => wpAny_pure ?_)
  have hTO₂ : IsPair h₂ TO a b := hs₂.extBut _ _ D.TOi1 (hs₁.extBut _ _ D.TOz hTO)
  refine wpAny_bind (wpAny_seqItems hTO₂ rfl ?_)
  refine wpAny_bind (wpAny_updateSeq_pair hTO₂ fun h₃ hTO₃ hs₃ => ?_)
  replace hTO₃ : IsPair h₃ TO x b := hTO₃
  refine wpAny_bind (wpAny_letGo (wpAny_pure ?_))
  refine wpAny_bind (wpAny_bind (wpAny_onRaise ?_))
  show wpAny _ _ (Builtin.SmallTypes.nextOf (.ref i2) >>= _) _ _ _
  refine wpAny_bind (nextOfT (((h2.extBut hs₁.extBut D.i2z).extBut hs₂.extBut D.i12.symm).extBut hs₃.extBut D.TOi2.symm)
    (((hl2.extBut hs₁.extBut D.l2z).extBut hs₂.extBut D.l2i1).extBut hs₃.extBut D.l2TO) hy fun h₄ h2₄ hs₄ => wpAny_pure ?_)
  have hTO₄ : IsPair h₄ TO x b := hs₄.extBut _ _ D.TOi2 hTO₃
  refine wpAny_bind (wpAny_seqItems hTO₄ rfl ?_)
  refine wpAny_bind (wpAny_updateSeq_pair hTO₄ fun h₅ hTO₅ hs₅ => ?_)
  replace hTO₅ : IsPair h₅ TO x y := hTO₅
  refine wpAny_bind (wpAny_letGo (wpAny_pure (wpAny_pure ?_)))
  refine wpAny_bind (wpAny_seqItems hTO₅ rfl ?_)
  refine wpAny_bind (wpAny_newTuple ?_)
  have hsz : h₅.objs.size = s.heap.objs.size := by rw [hs₅.1, hs₄.1, hs₃.1, hs₂.1, hs₁.1]
  have hz₅ : IsZip h₅ z TI TO .ellipsis := hs₅.extBut _ _ D.TOz.symm (hs₄.extBut _ _ D.i2z.symm (hs₃.extBut _ _ D.TOz.symm (hs₂.extBut _ _ D.i1z.symm hz₁)))
  have o1 : Out4 z TO i1 i2 s.heap h₅ := ((((Out4.of hs₁ (.inl rfl)).trans (.of hs₂ (.inr (.inr (.inl rfl))))).trans (.of hs₃ (.inr (.inl rfl)))).trans (.of hs₄ (.inr (.inr (.inr rfl))))).trans (.of hs₅ (.inr (.inl rfl)))
  have h1₅ : h₅.IsTupleIter i1 l1 (k + 1) := ((h1₂.extBut hs₃.extBut D.TOi1.symm).extBut hs₄.extBut D.i12).extBut hs₅.extBut D.TOi1.symm
  have h2₅ : h₅.IsTupleIter i2 l2 (k + 1) := h2₄.extBut hs₅.extBut D.TOi2.symm
  have hzlt : z < h₅.objs.size := Heap.lt_size hz₅
  show wpAny _ _ (Builtin.SmallTypes.ownedTupleHandOut (.ref z) (.ref h₅.objs.size) >>= _) _ _ _
  refine wpAny_bind ?_
  unfold Builtin.SmallTypes.ownedTupleHandOut
  have hz₆ : IsZip (h₅.push { cls := .type "tuple", data := .seq #[x, y] }) z TI TO .ellipsis := Heap.get?_push_of_some _ hz₅
  refine wpAny_bind (wpAny_setField_rec hz₆ (by simp) fun h₇ hz₇ hs₇ => ?_)
  replace hz₇ : IsZip h₇ z TI TO (rawInt h₅.objs.size) := hz₇
  refine wpAny_setField_rec hz₇ (by simp) fun h₈ hz₈ hs₈ => ?_
  replace hz₈ : IsZip h₈ z TI TO (rawInt h₅.objs.size) := hz₈
  have up : ∀ c o, c ≠ z → h₅.get? c = some o → h₈.get? c = some o := fun c o c1 e => hs₈.extBut _ _ c1 (hs₇.extBut _ _ c1 (Heap.get?_push_of_some _ e))
  have hT₈ : IsPair h₈ h₅.objs.size x y := hs₈.extBut _ _ (Nat.ne_of_gt hzlt) (hs₇.extBut _ _ (Nat.ne_of_gt hzlt) (Heap.get?_push_size _ rfl))
  rw [hsz] at hz₈ hT₈
  refine wpAny_pure ⟨_, rfl, wpAny_pure ?_⟩
  show Q (some (.ref h₅.objs.size)) _
  rw [hsz]
  exact hQ h₈ hz₈ ⟨_, _, up _ _ D.TOz hTO₅⟩ (h1₅.at fun o e => up _ o D.i1z e) (h2₅.at fun o e => up _ o D.i2z e) hT₈ (o1.trans fun c o c1 _ _ _ e => up c o c1 e)

theorem zipT_end {z TI TO i1 i2 l1 l2 : Addr} {xs ys : Array Value} {k : Nat} {Q : Option Value → Shared → Prop} (hh : A.handled = none) (Z : Zs s.heap z TI TO i1 i2 l1 l2 xs ys k) (hend : xs[k]? = none ∨ ys[k]? = none)
    (hQ : ∀ h', Out4 z TO i1 i2 s.heap h' → (∃ a b, IsPair h' TO a b) → Q none { s with heap := h' }) : wpAny (model prog w) A (pyNext (.ref z)) Q E s := by
  obtain ⟨D, hz, hTI, ⟨a, b, hTO⟩, h1, h2, hl1, hl2⟩ := Z
  have hT : s.TypeIs (.ref z) "zip" := ⟨_, hz, rfl⟩
  unfold pyNext
  refine wpAny_bind (wpAny_attempt (wpAny_callSpecial?_slot (name := Str.ofString "__next__") hT F.slot_zip_next (wpAny_call_entry F.slot_zip_next hT F.entry_zip_next ?_ (F.args_zip_next_1 _))))
  have fin : ∀ h' e, Out4 z TO i1 i2 s.heap h' → (∃ a b, IsPair h' TO a b) → (∃ o, h'.get? e = some o ∧ o.cls = .type "StopIteration") → wpAny (model prog w) A (do
      if ← isInstance (.ref e) (.type "StopIteration") then pure none else throw (.ref e)) Q E { s with heap := h' } := fun h' e hk hp he => by
    obtain ⟨o, ho, hc⟩ := he
    exact wpAny_bind (wpAny_isInstance (T := "StopIteration") (b := true) ⟨o, ho, hc⟩ isSubtype_stop (wpAny_pure (hQ _ hk hp)))
  show wpAny _ _ (field (.ref z) 2 >>= _) _ _ _
  refine wpAny_bind (wpAny_field hz rfl (x := .bool false) rfl ?_)
  show wpAny _ _ (field (.ref z) 3 >>= _) _ _ _
  refine wpAny_bind (wpAny_field hz rfl (x := .ref TI) rfl ?_)
  refine wpAny_bind (wpAny_seqItems hTI rfl ?_)
  show wpAny _ _ (Builtin.SmallTypes.ownedTupleIsFree (.ref z) >>= _) _ _ _
  refine wpAny_bind ?_
  unfold Builtin.SmallTypes.ownedTupleIsFree
  refine wpAny_bind (wpAny_field hz rfl (x := .none) rfl (wpAny_pure ?_))
  simp only [if_true]
  refine wpAny_bind (wpAny_rule ?_)
  refine wpAny_bind (wpAny_field hz rfl (x := .ref TO) rfl ?_)
  refine wpAny_bind (wpAny_setField_rec hz (by simp) fun h₁ hz₁ hs₁ => ?_)
  replace hz₁ : IsZip h₁ z TI TO .ellipsis := hz₁
  refine wpAny_bind ?_
  simp only [List.zipIdx_cons, List.zipIdx_nil, List.forIn_cons, List.forIn_nil]
  refine wpAny_bind (wpAny_bind (wpAny_onRaise ?_))
  show wpAny _ _ (Builtin.SmallTypes.nextOf (.ref i1) >>= _) _ _ _
  cases hx : xs[k]? with
  | none =>
    refine wpAny_bind (nextOfT_end hh (h1.extBut hs₁.extBut D.i1z) (hl1.extBut hs₁.extBut D.l1z) hx fun h₂ e hs₂ he => ?_)
    obtain ⟨oe, hoe, hce⟩ := he
    have hz₂ : IsZip h₂ z TI TO .ellipsis := hs₂ _ _ D.i1z.symm hz₁
    have hez : e ≠ z := fun x => by subst x; rw [hz₂] at hoe; cases hoe; simp at hce
    exact wpAny_setField_rec hz₂ (by simp) fun h₃ _ hs₃ => fin h₃ e (fun c o c1 _ c3 _ x => hs₃.extBut _ _ c1 (hs₂ _ _ c3 (hs₁.extBut _ _ c1 x))) ⟨a, b, hs₃.extBut _ _ D.TOz (hs₂ _ _ D.TOi1 (hs₁.extBut _ _ D.TOz hTO))⟩ ⟨oe, hs₃.extBut _ _ hez hoe, hce⟩
  | some x =>
    have hy : ys[k]? = none := by rcases hend with h | h; rw [hx] at h; cases h; exact h
    refine wpAny_bind (nextOfT (h1.extBut hs₁.extBut D.i1z) (hl1.extBut hs₁.extBut D.l1z) hx fun h₂ h1₂ hs₂ => wpAny_pure ?_)
    have hTO₂ : IsPair h₂ TO a b := hs₂.extBut _ _ D.TOi1 (hs₁.extBut _ _ D.TOz hTO)
    refine wpAny_bind (wpAny_seqItems hTO₂ rfl ?_)
    refine wpAny_bind (wpAny_updateSeq_pair hTO₂ fun h₃ hTO₃ hs₃ => ?_)
    replace hTO₃ : IsPair h₃ TO x b := hTO₃
    refine wpAny_bind (wpAny_letGo (wpAny_pure ?_))
    refine wpAny_bind (wpAny_bind (wpAny_onRaise ?_))
    show wpAny _ _ (Builtin.SmallTypes.nextOf (.ref i2) >>= _) _ _ _
    refine wpAny_bind (nextOfT_end hh (((h2.extBut hs₁.extBut D.i2z).extBut hs₂.extBut D.i12.symm).extBut hs₃.extBut D.TOi2.symm)
      (((hl2.extBut hs₁.extBut D.l2z).extBut hs₂.extBut D.l2i1).extBut hs₃.extBut D.l2TO) hy fun h₄ e hs₄ he => ?_)
    obtain ⟨oe, hoe, hce⟩ := he
    have hz₄ : IsZip h₄ z TI TO .ellipsis := hs₄ _ _ D.i2z.symm (hs₃.extBut _ _ D.TOz.symm (hs₂.extBut _ _ D.i1z.symm hz₁))
    have hez : e ≠ z := fun x => by subst x; rw [hz₄] at hoe; cases hoe; simp at hce
    exact wpAny_setField_rec hz₄ (by simp) fun h₅ _ hs₅ => fin h₅ e (fun c o c1 c2 c3 c4 x => hs₅.extBut _ _ c1 (hs₄ _ _ c4 (hs₃.extBut _ _ c2 (hs₂.extBut _ _ c3 (hs₁.extBut _ _ c1 x))))) ⟨x, b, hs₅.extBut _ _ D.TOz (hs₄ _ _ D.TOi2 hTO₃)⟩ ⟨oe, hs₅.extBut _ _ hez hoe, hce⟩

noncomputable abbrev zH1 (h : Heap) (l1 : Addr) : Heap := h.push { cls := .type "tuple_iterator", data := .fields #[.ref l1, .int 0 0] }
noncomputable abbrev zH2 (h : Heap) (l1 l2 : Addr) : Heap := (zH1 h l1).push { cls := .type "tuple_iterator", data := .fields #[.ref l2, .int 0 0] }
noncomputable abbrev zH3 (h : Heap) (l1 l2 : Addr) : Heap := (zH2 h l1 l2).push { cls := .type "tuple", data := .seq #[.ref h.objs.size, .ref (zH1 h l1).objs.size] }
noncomputable abbrev zH4 (h : Heap) (l1 l2 : Addr) : Heap := (zH3 h l1 l2).push { cls := .type "tuple", data := .seq #[.none, .none] }
noncomputable abbrev zH5 (h : Heap) (l1 l2 : Addr) : Heap := (zH4 h l1 l2).push { cls := .type "zip", data := .fields #[.none, .bool false, .bool false, .ref (zH2 h l1 l2).objs.size, .ref (zH3 h l1 l2).objs.size] }

theorem meets_zipT (l1 l2 : Addr) (xs ys : Array Value) :
    Meets (Builtin.«zip.__new__» ⟨[.type "zip", .ref l1, .ref l2], []⟩) (fun _ R s => s.heap.IsTuple l1 xs ∧ s.heap.IsTuple l2 ys ∧ R (.ok (.ret (.ref (zH4 s.heap l1 l2).objs.size))) { s with heap := zH5 s.heap l1 l2 }) :=
  .of_wp fun prog w A R s h => by
    obtain ⟨hp, g, d, tk, os⟩ := s; obtain ⟨hl1, hl2, h⟩ := h
    have hsub := sub_zip
    have hL1 : Heap.IsTuple (Shared.heap ⟨hp, g, d, tk, os⟩) l1 xs := hl1
    have hL2 : Heap.IsTuple (Shared.heap ⟨hp.push { cls := .type "tuple_iterator", data := .fields #[.ref l1, .int 0 0] }, g, d, tk, os⟩) l2 ys := Heap.IsTuple.push hl2 _
    wp_walk using wpAny_pyIter_tuple hL1, wpAny_pyIter_tuple hL2
    exact ⟨_, rfl, h⟩

theorem call_zipT {l1 l2 : Addr} {xs ys : Array Value} {Q : Value → Shared → Prop} (hl1 : s.heap.IsTuple l1 xs) (hl2 : s.heap.IsTuple l2 ys)
    (h : ∀ h' z TI TO i1 i2, Zs h' z TI TO i1 i2 l1 l2 xs ys 0 → (∀ a, a = z ∨ a = TI ∨ a = TO ∨ a = i1 ∨ a = i2 → s.heap.get? a = none) → IsPair h' TO .none .none → s.heap.objs.size ≤ TO → (∀ c o, s.heap.get? c = some o → h'.get? c = some o) → Q (.ref z) { s with heap := h' }) :
    wpAny (model prog w) A (call (.type "zip") [.ref l1, .ref l2]) Q E s := by
  refine callType_new F.called_zip (by decide) (F.typeCall_zip_2 _ _) (F.newCall_zip_2 _ _) (fun obj => F.args_object_init_3 obj _ _) F.entry_zip_new
    (meets_zipT l1 l2 xs ys) ⟨hl1, hl2, ?_⟩
  have z1 : (zH1 s.heap l1).objs.size = s.heap.objs.size + 1 := Heap.size_push ..
  have z2 : (zH2 s.heap l1 l2).objs.size = s.heap.objs.size + 2 := by rw [Heap.size_push, z1]
  have z3 : (zH3 s.heap l1 l2).objs.size = s.heap.objs.size + 3 := by rw [Heap.size_push, z2]
  have z4 : (zH4 s.heap l1 l2).objs.size = s.heap.objs.size + 4 := by rw [Heap.size_push, z3]
  have g5 : (zH5 s.heap l1 l2).get? (zH4 s.heap l1 l2).objs.size = some _ := Heap.get?_push_size _ rfl
  have g4 : (zH5 s.heap l1 l2).get? (zH3 s.heap l1 l2).objs.size = some _ := Heap.get?_push_of_some _ (Heap.get?_push_size _ rfl)
  have g3 : (zH5 s.heap l1 l2).get? (zH2 s.heap l1 l2).objs.size = some _ := Heap.get?_push_of_some _ (Heap.get?_push_of_some _ (Heap.get?_push_size _ rfl))
  have g2 : (zH5 s.heap l1 l2).get? (zH1 s.heap l1).objs.size = some _ := Heap.get?_push_of_some _ (Heap.get?_push_of_some _ (Heap.get?_push_of_some _ (Heap.get?_push_size _ rfl)))
  have g1 : (zH5 s.heap l1 l2).get? s.heap.objs.size = some _ := Heap.get?_push_of_some _ (Heap.get?_push_of_some _ (Heap.get?_push_of_some _ (Heap.get?_push_of_some _ (Heap.get?_push_size _ rfl))))
  have old : ∀ c o, s.heap.get? c = some o → (zH5 s.heap l1 l2).get? c = some o := fun c o x => Heap.get?_push_of_some _ (Heap.get?_push_of_some _ (Heap.get?_push_of_some _ (Heap.get?_push_of_some _ (Heap.get?_push_of_some _ x))))
  have lt1 : l1 < s.heap.objs.size := by obtain ⟨_, e, _⟩ := hl1; exact Heap.lt_size e
  have lt2 : l2 < s.heap.objs.size := by obtain ⟨_, e, _⟩ := hl2; exact Heap.lt_size e
  show _ ∧ _
  rw [z2, z3, z4] at g5
  rw [z1, z2] at g3
  rw [z3] at g4
  rw [z1] at g2
  rw [z4]
  refine ⟨⟨_, g5, rfl⟩, h _ _ (s.heap.objs.size + 2) (s.heap.objs.size + 3) s.heap.objs.size (s.heap.objs.size + 1) ⟨?_, g5, g3, ⟨_, _, g4⟩, ⟨_, g1, rfl, rfl⟩, ⟨_, g2, rfl, rfl⟩, ?_, ?_⟩ ?_ g4 (Nat.le_add_right _ _) old⟩
  · constructor <;> unfold Addr at * <;> (first | lia | omega)
  · obtain ⟨o, e, r⟩ := hl1; exact ⟨o, old _ _ e, r⟩
  · obtain ⟨o, e, r⟩ := hl2; exact ⟨o, old _ _ e, r⟩
  · intro a ha
    cases q : s.heap.get? a with
    | none => rfl
    | some o =>
      have hlt := Heap.lt_size q
      exfalso
      rcases ha with rfl | rfl | rfl | rfl | rfl
      · exact absurd hlt (Nat.not_lt.mpr (Nat.le_add_right _ _))
      · exact absurd hlt (Nat.not_lt.mpr (Nat.le_add_right _ _))
      · exact absurd hlt (Nat.not_lt.mpr (Nat.le_add_right _ _))
      · exact absurd hlt (Nat.lt_irrefl _)
      · exact absurd hlt (Nat.not_lt.mpr (Nat.le_add_right _ _))
end
end Mine
end

/-! part L20 -/
section
open PySem PySem.W PySem.Calls PyProof.Rows
set_option Elab.async false
set_option autoImplicit false
set_option linter.all false
set_option maxRecDepth 100000
namespace Mine
section
variable {c : Cx} {n : Nat} {sc : Scope} {m : Loc} {σ : List O}

noncomputable def pairs2 : List V → List V → List V
  | x :: xs, y :: ys => .tup [x, y] :: pairs2 xs ys
  | _, _ => []
/-- the zip z gives zs; its scrap is the tracked object t -/
structure ZipP (c : Cx) (hb : Heap) (t : Nat) (μ : List Addr) (h : Heap) (z TI TO i1 i2 l1 l2 : Addr) (xs ys : Array Value) (k : Nat) (us vs : List V) : Prop where
  Z : Zs h z TI TO i1 i2 l1 l2 xs ys k
  dead : ∀ a, a = z ∨ a = TI ∨ a = TO ∨ a = i1 ∨ a = i2 → hb.get? a = none
  new : ∀ a, a = z ∨ a = TI ∨ a = TO ∨ a = i1 ∨ a = i2 → c.h₀.get? a = none
  off : ∀ a, a = z ∨ a = TI ∨ a = i1 ∨ a = i2 ∨ a = l1 ∨ a = l2 → a ∉ μ
  at_ : μ[t]? = some TO
  us : VRs h μ us (xs.toList.drop k)
  vs : VRs h μ vs (ys.toList.drop k)
  e1 : ∃ q, h.get? l1 = some (tupO xs q)
  e2 : ∃ q, h.get? l2 = some (tupO ys q)
noncomputable def ZipPE (c : Cx) (hb : Heap) (t : Nat) (μ : List Addr) (h : Heap) (it : Value) (zs : List V) : Prop :=
  ∃ z TI TO i1 i2 l1 l2 xs ys k us vs, it = .ref z ∧ ZipP c hb t μ h z TI TO i1 i2 l1 l2 xs ys k us vs ∧ zs = pairs2 us vs

theorem isIt_iter {h : Heap} {i l : Addr} {k : Nat} (x : h.IsTupleIter i l k) : ∃ o, h.get? i = some o ∧ isIt o := by
  obtain ⟨o, a, b, d⟩ := x
  exact ⟨o, a, ⟨_, d⟩, by rw [b]; decide⟩
theorem isIt_zip {h : Heap} {z TI TO : Addr} {f : Value} (x : IsZip h z TI TO f) : ∃ o, h.get? z = some o ∧ isIt o := ⟨_, x, ⟨_, rfl⟩, show (Value.type _) ≠ Value.type _ by decide⟩

theorem Proto.zip {A : Around} {hb : Heap} {es : List Expr} {q : Nat} {pos : Pos} {t : Nat} (hh : A.handled = none) (ht : σ[t]? = some .junk) : Proto c A σ hb (.Tuple es q pos) (ZipPE c hb t) := by
  have htr : ∀ ρ : List O, (σ ++ ρ)[t]? = some .junk := fun ρ => by rw [List.getElem?_append_left (List.getElem?_eq_some_iff.mp ht).1]; exact ht
  refine ⟨?_, ?_, ?_⟩
  · rintro W μ μ' h h' it zs ρ ρ' ⟨z, TI, TO, i1, i2, l1, l2, xs, ys, k, us, vs, rfl, X, rfl⟩ G G' S hW
    obtain ⟨⟨D, hz, hTI, hTO, h1, h2, hl1, hl2⟩, dead, new, off, at_, hus, hvs, ⟨q1, e1⟩, ⟨q2, e2⟩⟩ := X
    have itW : ∀ {a o}, h.get? a = some o → isIt o → a ∉ W := fun e i hm => i.notStore (hW _ hm _ e)
    have valW : ∀ {a o}, h.get? a = some o → isVal o → a ∉ W := fun e i hm => (hW _ hm _ e).not i
    obtain ⟨oz, ez, iz⟩ := isIt_zip hz
    obtain ⟨o1, ei1, ii1⟩ := isIt_iter h1
    obtain ⟨o2, ei2, ii2⟩ := isIt_iter h2
    have kz : ∀ o, h.get? z = some o → h'.get? z = some o := fun o e => S.keep _ o e (itW ez iz) (off _ (.inl rfl))
    have k1 : ∀ o, h.get? i1 = some o → h'.get? i1 = some o := fun o e => S.keep _ o e (itW ei1 ii1) (off _ (.inr (.inr (.inl rfl))))
    have k2 : ∀ o, h.get? i2 = some o → h'.get? i2 = some o := fun o e => S.keep _ o e (itW ei2 ii2) (off _ (.inr (.inr (.inr (.inl rfl)))))
    have kT : ∀ o, h.get? TI = some o → h'.get? TI = some o := fun o e => S.keep _ o e (valW hTI (.inl ⟨_, _, rfl⟩)) (off _ (.inr (.inl rfl)))
    have kl1 : ∀ o, h.get? l1 = some o → h'.get? l1 = some o := fun o e => S.keep _ o e (valW e1 (.inl ⟨_, _, rfl⟩)) (off _ (.inr (.inr (.inr (.inr (.inl rfl))))))
    have kl2 : ∀ o, h.get? l2 = some o → h'.get? l2 = some o := fun o e => S.keep _ o e (valW e2 (.inl ⟨_, _, rfl⟩)) (off _ (.inr (.inr (.inr (.inr (.inr rfl))))))
    have at' := S.idx at_
    have hK := S.keeps hW
    refine ⟨z, TI, TO, i1, i2, l1, l2, xs, ys, k, us, vs, rfl, ⟨⟨D, kz _ hz, kT _ hTI, ?_, h1.at k1, h2.at k2, hl1.at kl1, hl2.at kl2⟩, dead, new, fun a ha => ?_, at', VRs.mono hK _ _ hus, VRs.mono hK _ _ hvs, ⟨q1, kl1 _ e1⟩, ⟨q2, kl2 _ e2⟩⟩, rfl⟩
    · exact G'.rel _ _ _ (htr ρ') at'
    · have : ∃ o, h.get? a = some o := by
        rcases ha with rfl | rfl | rfl | rfl | rfl | rfl
        · exact ⟨_, hz⟩
        · exact ⟨_, hTI⟩
        · exact ⟨_, ei1⟩
        · exact ⟨_, ei2⟩
        · exact ⟨_, e1⟩
        · exact ⟨_, e2⟩
      obtain ⟨o, ho⟩ := this
      exact S.off ho (off a ha)
  · rintro μ s it zs ρ N Y E ⟨z, TI, TO, i1, i2, l1, l2, xs, ys, k, us, vs, rfl, X, rfl⟩ G kk
    obtain ⟨Z, dead, new, off, at_, hus, hvs, ⟨q1, e1⟩, ⟨q2, e2⟩⟩ := X
    have turn : ∀ h', Out4 z TO i1 i2 s.heap h' → (∃ a b, IsPair h' TO a b) → Turn c μ (σ ++ ρ) hb s.heap h' := fun h' ho hp => by
      refine ⟨[z, TO, i1, i2], fun a ha => ?_, fun b o hb' e => ho b o (fun q => hb' (by simp [q])) (fun q => hb' (by simp [q])) (fun q => hb' (by simp [q])) (fun q => hb' (by simp [q])) e⟩
      simp only [List.mem_cons, List.not_mem_nil, or_false] at ha
      rcases ha with rfl | rfl | rfl | rfl
      · exact ⟨dead _ (.inl rfl), new _ (.inl rfl), .inl ⟨off _ (.inl rfl), isIt_zip Z.z⟩⟩
      · exact ⟨dead _ (.inr (.inr (.inl rfl))), new _ (.inr (.inr (.inl rfl))), .inr ⟨t, at_, htr ρ, hp⟩⟩
      · exact ⟨dead _ (.inr (.inr (.inr (.inl rfl)))), new _ (.inr (.inr (.inr (.inl rfl)))), .inl ⟨off _ (.inr (.inr (.inl rfl))), isIt_iter Z.i1⟩⟩
      · exact ⟨dead _ (.inr (.inr (.inr (.inr rfl)))), new _ (.inr (.inr (.inr (.inr rfl)))), .inl ⟨off _ (.inr (.inr (.inr (.inl rfl)))), isIt_iter Z.i2⟩⟩
    have stop : (us = [] ∨ vs = []) → wpAny (model c.prog c.w) A (pyNext (.ref z)) (fun r s₁ => match r with | none => N s₁ | some v => wpAny (model c.prog c.w) A (letOwnedTupleGo (.Tuple es q pos) (.ref z) v) (fun _ s₂ => Y s₂ v) E s₁) E s := by
      intro he
      have hz : pairs2 us vs = [] := by
        rcases he with rfl | rfl
        · rfl
        · cases us <;> rfl
      rw [hz] at kk
      refine zipT_end hh Z ?_ fun h' ho hp => kk h' s.toks (turn h' ho hp)
      rcases he with rfl | rfl
      · left; rw [← Array.getElem?_toList]; exact drop_nil (VRs.nil_inv hus)
      · right; rw [← Array.getElem?_toList]; exact drop_nil (VRs.nil_inv hvs)
    match us, vs, hus, hvs, kk, stop with
    | [], _, _, _, _, stop => exact stop (.inl rfl)
    | _ :: _, [], _, _, _, stop => exact stop (.inr rfl)
    | u :: us, v :: vs, hus, hvs, kk, _ =>
      obtain ⟨x, ws, a1, a2, a3⟩ := VRs.uncons hus
      obtain ⟨y, ws', b1, b2, b3⟩ := VRs.uncons hvs
      obtain ⟨c1, c2⟩ := drop_uncons a1
      obtain ⟨d1, d2⟩ := drop_uncons b1
      refine zipT_item Z (by rw [← Array.getElem?_toList]; exact c1) (by rw [← Array.getElem?_toList]; exact d1) fun h' hz hp g1 g2 hT ho => ?_
      obtain ⟨D, _, hTI, _, _, _, hl1, hl2⟩ := Z
      refine wpAny_letOwnedTupleGo_zip (s := { s with heap := h' }) hz fun h'' hz' hs' => ?_
      have ho' : Out4 z TO i1 i2 s.heap h'' := ho.trans (Out4.of hs' (.inl rfl))
      have hp' : ∃ a b, IsPair h'' TO a b := let ⟨a, b, e⟩ := hp; ⟨a, b, hs'.extBut _ _ D.TOz e⟩
      have T := turn h'' ho' hp'
      have K := T.keep
      have hzlt : z < s.heap.objs.size := by obtain ⟨o, e, _⟩ := isIt_zip ‹IsZip s.heap z TI TO .none›; exact Heap.lt_size e
      have hT' : IsPair h'' s.heap.objs.size x y := hs'.extBut _ _ (Nat.ne_of_gt hzlt) hT
      have kl1 := ho' _ _ D.l1z D.l1TO D.l1i1 D.l1i2 e1
      have kl2 := ho' _ _ D.l2z D.l2TO D.l2i1 D.l2i2 e2
      refine kk h'' s.toks (.ref s.heap.objs.size) T (VR.tup (items := #[x, y]) (k := 0) G.size_off hT' (VRs.cons (VR.mono K _ _ a2) (VRs.one (VR.mono K _ _ b2)))) ?_
      refine ⟨z, TI, TO, i1, i2, l1, l2, xs, ys, k + 1, us, vs, rfl, ⟨⟨D, hz', ho' _ _ D.TIz D.TITO D.TIi1 D.TIi2 hTI, hp', ?_, ?_, isTuple_of kl1, isTuple_of kl2⟩, dead, new, off, at_, by rw [c2]; exact VRs.mono K _ _ a3, by rw [d2]; exact VRs.mono K _ _ b3, ⟨q1, kl1⟩, ⟨q2, kl2⟩⟩, rfl⟩
      · obtain ⟨o, r1, r2⟩ := g1; exact ⟨o, hs'.extBut _ _ D.i1z r1, r2⟩
      · obtain ⟨o, r1, r2⟩ := g2; exact ⟨o, hs'.extBut _ _ D.i2z r1, r2⟩
  · rintro μ s it zs Q E ⟨z, TI, TO, i1, i2, l1, l2, xs, ys, k, us, vs, rfl, X, rfl⟩ hq
    exact wpAny_pyIter_zip X.Z.z hq

/-- a comprehension over zip(a, b), a and b tuples -/
theorem WpE_compZ {elt e1 e2 : Expr} {es : List Expr} {q : Nat} {zx : Str} {p1 p2 p3 pos : Pos} {ifs : List Expr} {scope : Scope} {Φ : V → List O → Prop} (OK : CompOk sc scope) (ht : tl (relab sc scope) (.Tuple es q p3) = true) (gz : Glo c zx (.type "zip"))
    (h : WpE c n sc m σ e1 fun u σ₁ => σ₁ = σ ∧ WpE c n sc m σ e2 fun v σ₂ => σ₂ = σ ∧ ∃ us vs, u = .tup us ∧ v = .tup vs ∧
      LvGo c n (relab sc scope) (σ ++ [.junk]) (.Tuple es q p3) ifs (Em1 c n (relab sc scope) (σ ++ [.junk]) elt) (pairs2 us vs) (compLoc scope m) [] fun _ acc => rbs σ.length acc = true ∧ Φ (.lst acc) σ)
    (hs : ∀ env x, foldedSetIterable (.Call (.Name zx p1) [e1, e2] [] p2) env x = pure x := by intro _ _; rfl)
    (hl : sc.names.lookup zx = some .globalImplicit := by decide +kernel) (hd : (zx == ("__debug__" : Str)) = false := by decide +kernel) (hpl : plainEs [e1, e2] := by intro _ _; rfl) :
    WpE c n sc m σ (.ListComp elt [⟨.Tuple es q p3, .Call (.Name zx p1) [e1, e2] [] p2, ifs, 0⟩] scope pos) Φ := by
  intro A env μ s Q E hR hG hF kk
  obtain ⟨p, e⟩ := rw_listcomp elt ⟨.Tuple es q p3, .Call (.Name zx p1) [e1, e2] [] p2, ifs, 0⟩ [] scope pos env rfl
  show wpAny _ _ (eval _ env) _ _ _
  have ht' : (σ ++ [O.junk])[σ.length]? = some O.junk := by rw [List.getElem?_append_right (Nat.le_refl _)]; simp
  have go := comp_sound (σ := σ) (ρ := [.junk]) (Φ := Φ) (Em := Em1 c n (relab sc scope) (σ ++ [.junk]) elt) (elt := elt) (g := ⟨.Tuple es q p3, .Call (.Name zx p1) [e1, e2] [] p2, ifs, 0⟩) (rest := []) (pos := pos) (pos' := p) (E := E) (Q := Q) hR OK ht rfl
    (fun it D env => turn_1 _ _ _ _ _ _ _ _ _) (fun D env => em1_sound) (hs env) (P := ZipPE c s.heap σ.length) (Proto.zip hR.hand ht') hG hF (fun Q E kq => ?_) kk
  · rw [e]
    exact go
  · refine Call_ (glo_sound hG hF gz hl hd (callWith_any (c := c) trivial hpl (Calls.spliced_cons (h A env μ s _ E hR hG hF fun r1 u σ₁ μ₁ h₁ tk₁ hx S₁ G₁ V₁ => ?_))))
    obtain ⟨rfl, hx⟩ := hx
    refine Calls.spliced_cons (hx A env μ₁ { s with heap := h₁, toks := tk₁ } _ E hR G₁ (hF.step S₁) fun r2 v σ₂ μ₂ h₂ tk₂ hx S₂ G₂ V₂ => Calls.spliced_nil ⟨G₂.kin, ?_⟩)
    obtain ⟨rfl, us, vs, rfl, rfl, go⟩ := hx
    obtain ⟨l1, xs, q1, rfl, off1, a1, a2⟩ := (S₂.vr V₁).tup_inv
    obtain ⟨l2, ys, q2, rfl, off2, b1, b2⟩ := V₂.tup_inv
    refine call_zipT (s := { s with heap := h₂, toks := tk₂ }) (isTuple_of a1) (isTuple_of b1) fun h₃ z TI TO i1 i2 Z dead hp hTO hk => ?_
    have S12 := S₁.trans S₂
    have S12' := S12
    obtain ⟨ν, rfl, hν⟩ := S12.grow
    have dead0 : ∀ a, a = z ∨ a = TI ∨ a = TO ∨ a = i1 ∨ a = i2 → s.heap.get? a = none := fun a ha => by
      cases q : s.heap.get? a with
      | none => rfl
      | some o => obtain ⟨o', e'⟩ := S12'.alive _ _ q; rw [dead a ha] at e'; cases e'
    obtain ⟨G₃, S₃⟩ := G₂.fresh1 hk (dead TO (.inr (.inr (.inl rfl)))) (Nat.lt_of_lt_of_le (HG.two G₂) hTO) (x := .junk) ⟨_, _, hp⟩
    have offμ : ∀ a, h₂.get? a = none → a ∉ μ ++ ν := fun a ha hm => by obtain ⟨o, ho⟩ := G₂.alive hm; rw [ha] at ho; cases ho
    have hnew : ∀ a, a = z ∨ a = TI ∨ a = TO ∨ a = i1 ∨ a = i2 → c.h₀.get? a = none := fun a ha => G₂.fresh (dead a ha)
    have D := Z.D
    refine wpAny_pyIter_zip (s := { s with heap := h₃, toks := tk₂ }) Z.z ?_
    refine kq (ν ++ [TO]) h₃ tk₂ (pairs2 us vs) (.ref z) (by rw [← List.append_assoc]; exact S12'.trans S₃) (by rw [← List.append_assoc]; exact G₃) ?_ go
    refine ⟨z, TI, TO, i1, i2, l1, l2, xs, ys, 0, us, vs, rfl, ⟨Z, dead0, hnew, fun a ha => ?_, ?_, ?_, ?_, ⟨q1, hk _ _ a1⟩, ⟨q2, hk _ _ b1⟩⟩, rfl⟩
    · rw [← List.append_assoc]
      intro hm
      rcases List.mem_append.mp hm with hm | hm
      · rcases ha with rfl | rfl | rfl | rfl | rfl | rfl
        · exact offμ _ (dead _ (.inl rfl)) hm
        · exact offμ _ (dead _ (.inr (.inl rfl))) hm
        · exact offμ _ (dead _ (.inr (.inr (.inr (.inl rfl))))) hm
        · exact offμ _ (dead _ (.inr (.inr (.inr (.inr rfl))))) hm
        · exact off1 hm
        · exact off2 hm
      · have hm := List.mem_singleton.mp hm
        subst hm
        rcases ha with e | e | e | e | e | e
        · exact D.TOz e
        · exact D.TITO e.symm
        · exact D.TOi1 e
        · exact D.TOi2 e
        · exact D.l1TO e.symm
        · exact D.l2TO e.symm
    · rw [← List.append_assoc, G₂.len, List.getElem?_append_right (Nat.le_refl _)]; simp
    · rw [← List.append_assoc]; simpa using S₃.vrs a2
    · rw [← List.append_assoc]; simpa using S₃.vrs b2
end
end Mine
end

/-! part L21 -/
section
open PySem PySem.W PySem.Calls PyProof.Rows
set_option Elab.async false
set_option autoImplicit false
set_option linter.all false
set_option maxRecDepth 100000
namespace Mine
section
variable {c : Cx} {n : Nat} {sc : Scope} {m : Loc} {σ : List O}

/-- a name of the text's own, read -/
theorem WpE_glo {x : Str} {pos : Pos} {r : Value} {v : V} {Φ : V → List O → Prop} (g : Glo c x r) (hv : ∀ (μ : List Addr) (h : Heap), HG c μ σ h → VR h μ v r) (h : Φ v σ)
    (hk : sc.names.lookup x = some .globalImplicit := by decide +kernel) (hd : (x == ("__debug__" : Str)) = false := by decide +kernel) : WpE c n sc m σ (.Name x pos) Φ := by
  intro A env μ s Q E hR hG hF kk
  exact glo_sound hG hF g hk hd (kk r v σ μ s.heap s.toks h (Step.refl _ _ _) hG (hv _ _ hG))

/-- f'TEXT{number}' -/
noncomputable def fstr (x : Str) (i : Int) : Str := Str.empty ++ x ++ (toString i : Str)
theorem WpE_fstr {x : Str} {k : Nat} {p1 p2 pos : Pos} {e : Expr} {Φ : V → List O → Prop} (hx : x.length ≤ 100) (h : WpE c n sc m σ e fun v σ₁ => ∃ i : Int, v = .int i ∧ i.natAbs.log2 < 1920 ∧ (fstr x i).length ≤ 10000 ∧ Φ (.str (fstr x i)) σ₁) :
    WpE c n sc m σ (.JoinedStr [.Constant (.str x) k p1, .FormattedValue e (-1) none p2] pos) Φ := by
  intro A env μ s Q E hR hG hF kk
  refine JoinedStr_many (joinParts_cons (wpAny_Constant_str ?_))
  refine ⟨?_, ?_⟩
  · rw [show (Str.empty ++ x).length = Str.empty.length + x.length from Str.length_append ..]; have : Str.empty.length = 0 := by decide
    unfold sizeLine; (first | lia | omega)
  refine joinParts_cons (FormattedValue_plain (h A env μ _ _ E hR hG hF fun r v σ₁ μ₁ h₁ tk₁ hv S₁ G₁ V₁ => ?_))
  obtain ⟨i, rfl, hi, hz, hΦ⟩ := hv
  obtain ⟨t, rfl⟩ := V₁.int_inv
  refine formatField_int_small hi ?_
  refine ⟨?_, ?_⟩
  · show (fstr x i).length ≤ sizeLine
    unfold sizeLine; (first | lia | omega)
  refine joinParts_nil ?_ (by show (fstr x i).length ≤ sizeLine; unfold sizeLine; (first | lia | omega))
  exact kk _ (.str (fstr x i)) σ₁ μ₁ h₁ _ hΦ S₁ G₁ (VR.str _ _)
/-- the slice [:k] -/
theorem eval_upto {A : Around} {env : Env} {s : Shared} {E : Value → Shared → Prop} {Q : Value → Shared → Prop} {k : Int} {q : Nat} {p1 p2 : Pos} (h : ∀ t tk, Q (.ref s.heap.objs.size) { s with heap := s.heap.push { cls := .type "slice", data := .fields #[.none, .int k t, .none] }, toks := tk }) :
    wpAny (model c.prog c.w) A (eval (.Slice none (some (.Constant (.int k) q p1)) none p2) env) Q E s := by
  rw [arm_eval_Slice]
  refine wpAny_bind (m := valueOrNone (evalOpt none env)) (wpAny_pure ?_)
  refine wpAny_bind (wpAny_holding ?_)
  show wpAny _ _ (eval (.Constant (.int k) q p1) env) _ _ _
  refine wpAny_Constant_int ?_
  refine wpAny_bind (wpAny_holding (m := valueOrNone (evalOpt none env)) (wpAny_pure ?_))
  exact wpAny_newObj_type (h _ _)

theorem ints_of_VRs {h : Heap} {μ : List Addr} : ∀ {ns : List Int} {vs : List Value}, VRs h μ (ns.map V.int) vs → IntsAre vs ns
  | [], vs, e => by rw [VRs.nil_inv e]; exact .nil
  | x :: xs, vs, e => by
    obtain ⟨v, ws, rfl, e1, e2⟩ := VRs.uncons e
    obtain ⟨t, rfl⟩ := e1.int_inv
    exact .cons _ _ (ints_of_VRs e2)

/-- the first k of a list of ints -/
theorem WpE_takeL {e : Expr} {k : Int} {q : Nat} {p1 p2 pos : Pos} {Φ : V → List O → Prop} (h0 : 0 ≤ k) (h : WpE c n sc m σ e fun v σ₁ => ∃ ns : List Int, v = .lst (ns.map V.int) ∧ ns.length ≤ 1000000 ∧ Φ (.lst ((ns.take k.toNat).map V.int)) σ₁)
    (ht : ∀ o r, letTemporaryGo e o r = pure () := by intro _ _; with_unfolding_all rfl) : WpE c n sc m σ (.Subscript e (.Slice none (some (.Constant (.int k) q p1)) none p2) pos) Φ := by
  intro A env μ s Q E hR hG hF kk
  refine Subscript_ (h A env μ s _ E hR hG hF fun r v σ₁ μ₁ h₁ tk₁ hv S₁ G₁ V₁ => ?_)
  obtain ⟨ns, rfl, hz, hΦ⟩ := hv
  obtain ⟨a, items, qq, rfl, a1, a2, a3⟩ := V₁.lst_inv
  have hI := ints_of_VRs a3
  have hl : items.size = ns.length := by have := hI.length; simpa using this
  refine eval_upto (c := c) (s := { s with heap := h₁, toks := tk₁ }) fun t tk => ?_
  have hL : (h₁.push { cls := .type "slice", data := .fields #[.none, .int k t, .none] }).IsList a items := isList_of (Heap.get?_push_of_some _ a2)
  refine subscriptTail_ops (Heap.IsList.typeIs (s := { s with heap := h₁.push { cls := .type "slice", data := .fields #[.none, .int k t, .none] }, toks := tk }) hL) list_getitem_lookup
    (wpAny_getItem_list_slice (s := { s with heap := h₁.push { cls := .type "slice", data := .fields #[.none, .int k t, .none] }, toks := tk }) hL (Heap.IsSliceOf.new ..) .none (.int k t) .none (by simp) ?_ (by unfold sizeLine; (first | lia | omega))) (by with_unfolding_all rfl) (ht _)
  have G₂ := G₁.push (σ := σ₁) { cls := .type "slice", data := .fields #[.none, .int k t, .none] }
  have G₃ := G₂.push { cls := .type "list", data := .seq (slicePick items none (some k) none) }
  have hI' := slice_ints_uptoW hI h0
  rw [Array.toArray_toList] at hI'
  exact kk _ _ σ₁ μ₁ _ tk hΦ ((S₁.trans (Step.push _)).trans (Step.push _)) G₃ (VR.lst (k := 0) G₂.size_off (Heap.get?_push_size _ rfl) (VRs.of_ints hI'))

/-- the first k signs of a text -/
theorem WpE_takeS {e : Expr} {k : Int} {q : Nat} {p1 p2 pos : Pos} {Φ : V → List O → Prop} (h : WpE c n sc m σ e fun v σ₁ => ∃ x : Str, v = .str x ∧ x.length ≤ 1000000 ∧ Φ (.str (Txt.slice x none (some k))) σ₁)
    (ht : ∀ x t r, letTemporaryGo e (.str x t) r = pure () := by intro _ _ _; with_unfolding_all rfl) : WpE c n sc m σ (.Subscript e (.Slice none (some (.Constant (.int k) q p1)) none p2) pos) Φ := by
  intro A env μ s Q E hR hG hF kk
  refine Subscript_ (h A env μ s _ E hR hG hF fun r v σ₁ μ₁ h₁ tk₁ hv S₁ G₁ V₁ => ?_)
  obtain ⟨x, rfl, hz, hΦ⟩ := hv
  obtain ⟨t0, rfl⟩ := V₁.str_inv
  refine eval_upto (c := c) (s := { s with heap := h₁, toks := tk₁ }) fun t tk => ?_
  refine tail_of_ItemOn ⟨"str", _, F.slot_str_getitem.lookup, typeIs_str _ _ _, wpAny_getItem_str_slice (l := none) (u := some (k, t)) (st := none) ⟨_, Heap.get?_push_size _ rfl, rfl, rfl⟩ rfl
    (post_val_or_str ⟨Nat.le_trans (Txt.slice_le x _ _) (by unfold sizeLine; (first | lia | omega)), fun t' tk' => ?_⟩)⟩ (by with_unfolding_all rfl) (ht _ _)
  exact kk _ _ σ₁ μ₁ _ tk' hΦ (S₁.trans (Step.push _)) (G₁.push _) (VR.str _ _)

theorem WpC_list {xs : List V} {Φ : V → List O → Prop} (hz : xs.length ≤ 1000000) (h : Φ (.lst xs) σ) : WpC c n (.type "list") σ [.lst xs] Φ := by
  intro A μ s vs Q E hR hG hv kk
  have kk : Kont c μ s Φ Q := kk
  obtain ⟨r1, w1, rfl, e1, e2⟩ := VRs.uncons hv
  rw [VRs.nil_inv e2]
  obtain ⟨a, items, q, rfl, h1, h2, h3⟩ := e1.lst_inv
  have hl := h3.length
  simp only [Array.length_toList] at hl
  refine call_list_seq a (.inl rfl) h2 rfl rfl (fun h' c' hk hn => ?_) (by unfold sizeLine; (first | lia | omega))
  exact kk_keeps (tk := s.toks) kk hG hk (VR.lst hG.size_off hn ((Step.of_keeps hk).vrs h3)) h
end
end Mine
end

/-! part L22 -/
section
open PySem PySem.W PySem.Calls PyProof.Rows
set_option Elab.async false
set_option autoImplicit false
set_option linter.all false
set_option maxRecDepth 100000
namespace Mine
section
variable {c : Cx} {n : Nat} {sc : Scope} {m : Loc} {σ : List O}

/-- key not in d, d a dict of made truths -/
theorem WpE_notinT {l r : Expr} {pos : Pos} {Φ : V → List O → Prop}
    (h : WpE c n sc m σ l fun a σ₁ => WpE c n sc m σ₁ r fun b σ₂ => ∃ i es key, b = .ref i ∧ σ₂[i]? = some (.tdict es) ∧ a = keyV key ∧ PyData.strOk key.1 = true ∧ Φ (.bool (!(getK es key).isSome)) σ₂) (hm : behindInMarks .NotIn r = false := by rfl) :
    WpE c n sc m σ (.Compare l [.NotIn] [r] pos) Φ := by
  intro A env μ s Q E hR hG hF kk
  refine wpAny_Compare1 (two hR hG hF h fun a b σ₁ σ₂ ra rb μ' h' tk hb S G va vb F => ?_) hm
  obtain ⟨i, es, key, rfl, h1, rfl, h2, hΦ⟩ := hb
  obtain ⟨d, rfl, hd⟩ := vb.ref_inv
  obtain ⟨ka, _, _, rfl, _⟩ := VR.tup_inv va
  obtain ⟨ys, g1, g2, g3, g4⟩ := OR.dictH (G.rel _ _ _ h1 hd)
  have hsys := G.sys (List.mem_of_getElem? hd)
  have hu : (tkKind c).room A.in1 := by show A.in1.units + 10 < cLine; have := hR.units; simp only [Around.in1_units]; unfold cLine; (first | lia | omega)
  refine wpAny_notIn_heap (knd := tkKind c) (s := { s with heap := h', toks := tk }) hu (vr_isTK va h2) hsys g1 ?_
  have ar := atKey_real (k := key) g2 g3
  have e : (atKey ys key).isSome = (getK es key).isSome := by
    cases q : getK es key with
    | some v => obtain ⟨p, h3, _⟩ := ar.1 v q; rw [h3]; rfl
    | none => rw [ar.2 q]; rfl
  rw [e]
  exact kk _ (.bool (!(getK es key).isSome)) σ₂ μ' h' _ hΦ S G (VR.bool _)

/-! instances -/
structure SetK (c : Cx) (C : Addr) (name : Str) : Prop where
  set_ : findIn c.K (.ref C) "__setattr__" = some (some (.builtin "object.__setattr__"))
  po : plainOver c.K C = true
  tk : takerIn c.K C name = some none
  hd : (clsIn c.K C).any (·.hasDict) = true

theorem setattr_new {A : Around} {C : Addr} {i : Nat} {name : Str} {es : List (Str × V)} {v : V} {ro rv : Value} {μ : List Addr} {s : Shared} {Q : Unit → Shared → Prop} {E : Value → Shared → Prop} (S : SetK c C name)
    (hG : HG c μ σ s.heap) (ho : VR s.heap μ (.inst C i) ro) (hi : σ[i]? = some (.sdict es)) (hn : getK es name = none) (hz : es.length ≤ 900) (hv : VR s.heap μ v rv)
    (kk : ∀ h' tk, Step [] μ s.heap μ h' → HG c μ (σ.set i (.sdict (es ++ [(name, v)]))) h' → Q () { s with heap := h', toks := tk }) :
    wpAny (model c.prog c.w) A (setAttr ro name rv) Q E s := by
  obtain ⟨x, d, rfl, _, g1, g2⟩ := ho.inst_inv
  obtain ⟨kvs, g3, g4, g5⟩ := hG.rel _ _ _ hi g2
  have gr := (getK_real (k := name) g4 g5).2 hn
  have g3' := g3
  obtain ⟨o, ds, ep, D, ⟨q2, q3, q4⟩, q5, q6, q7, q8⟩ := g3
  obtain ⟨oc, od, oda, osl⟩ := o
  simp only at q2 q3 q4 q5
  subst q2; subst q3; subst q4; subst q5
  have I : InstAt s.heap x (instObj C d) C (some ⟨.type "dict", none, .dict ds ep, #[]⟩) := ⟨g1, rfl, rfl, D⟩
  refine set_plain hG.kin I S.set_ ?_
  refine osa_open (s := { s with toks := s.toks + 1 }) hG.kin I S.po S.tk fun b => ?_
  obtain ⟨cd, hc, hd'⟩ := any_some S.hd
  -- the entries' keys are texts, and none is name
  have hs : ∀ e ∈ ds.toList, ∃ n t, e.key = .str n t := fun e he => by
    obtain ⟨q, hq, _⟩ := q6 e (by simpa using he)
    obtain ⟨t, ht⟩ := Value.isStrOf_shape hq
    exact ⟨q, t, ht⟩
  have noref : ds.any (·.refKey) = false := by
    rw [← Array.any_toList]
    rw [List.any_eq_false]
    intro e he
    obtain ⟨nn, t, ht⟩ := hs e he
    simp [DictEntry.refKey, ht]
  have hfind : ds.toList.findIdx? (fun e => e.key.isStr name) = none := by
    have hf := q7.findIdx name
    have e1 : ds.toList.findIdx? (fun e => e.key.isStr name) = ds.toList.findIdx? (fun e => (strKind c.prog c.w).is name e.key) := by
      have key : ∀ l : List DictEntry, (∀ e ∈ l, ∃ n t, e.key = .str n t) → l.findIdx? (fun e => e.key.isStr name) = l.findIdx? (fun e => (strKind c.prog c.w).is name e.key) := by
        intro l
        induction l with
        | nil => intro _; rfl
        | cons e l ih =>
          intro hl
          obtain ⟨nn, t, ht⟩ := hl e List.mem_cons_self
          rw [List.findIdx?_cons, List.findIdx?_cons, ih fun e he => hl e (List.mem_cons_of_mem _ he)]
          rw [show e.key.isStr name = (strKind c.prog c.w).is name e.key by rw [ht]; rfl]
      exact key _ hs
    rw [e1, hf]
    rw [List.findIdx?_eq_none_iff]
    intro kv hkv
    unfold valueAt at gr
    rw [Option.map_eq_none_iff] at gr
    have := List.find?_eq_none.mp gr kv hkv
    simpa using this
  have hany : (ds.toList.any fun e => e.key.isStr name) = false := by
    rw [List.any_eq_false]
    rw [List.findIdx?_eq_none_iff] at hfind
    intro e he
    have := hfind e he
    simpa using this
  have put : Obj.putName name (hashStr c.w name) (.str name (s.toks + 1)) rv ⟨.type "dict", none, .dict ds ep, #[]⟩ = ⟨.type "dict", none, .dict (ds.push ⟨hashStr c.w name, .str name (s.toks + 1), rv⟩) (ep + 1), #[]⟩ := by
    obtain ⟨l⟩ := ds
    rw [putName_eq]
    simp only at hfind hany
    unfold PySem.putIn
    rw [hfind, hany]
    simp
  have hx := g1
  refine wpAny_bind (wpAny_pure (wpAny_bind (wpAny_bind (wpAny_loadPart hx (wpAny_bind ((looks_clsIn hG.kin hc).here (s := { s with toks := s.toks + 1 }) ?_))))))
  rw [hd']
  refine wpAny_pure (a := some d) (wpAny_bind (wpAny_pure (wpAny_bind ?_)))
  unfold nsSet
  refine wpAny_bind (wpAny_bind (wpAny_askSetting (wpAny_pure (wpAny_bind (wpAny_mkText (wpAny_bind (wpAny_loadPart D ?_)))))))
  dsimp only
  have c0 : (!ds.any (·.key.isStr name) && ds.any (·.refKey)) = false := by rw [noref, Bool.and_false]
  rw [aRefKeyMayBeTheName_at, c0]
  refine wpAny_updatePart D ?_
  have D' : (s.heap.update d (Obj.putName name (hashStr c.w name) (.str name (s.toks + 1)) rv)).get? d = some ⟨.type "dict", none, .dict (ds.push ⟨hashStr c.w name, .str name (s.toks + 1), rv⟩) (ep + 1), #[]⟩ := by
    rw [Heap.get?_update_self _ D (by rw [put]; rfl), put]
  have hlen : ds.size = es.length := by
    have e1 := q7.length
    have e2 : kvs.length = es.length := by have := congrArg List.length g4; simpa using this
    simp only [Array.length_toList] at e1
    (first | lia | omega)
  refine wpAny_bind (wpAny_lookBehind D' (pastItsLine_dict (by rw [Array.size_push]; unfold sizeLine; (first | lia | omega))) ?_)
  refine wpAny_pure ?_
  have sb : Heap.SameBut d s.heap (s.heap.update d (Obj.putName name (hashStr c.w name) (.str name (s.toks + 1)) rv)) := Heap.SameBut.update ..
  have hnn : name ∉ kvs.map (·.1) := fun hm => by
    obtain ⟨kv, hk1, hk2⟩ := List.mem_map.mp hm
    unfold valueAt at gr
    rw [Option.map_eq_none_iff] at gr
    have := List.find?_eq_none.mp gr kv hk1
    simp [hk2] at this
  obtain ⟨G', S'⟩ := hG.modify (x' := .sdict (es ++ [(name, v)])) hi g2 sb fun K => by
    refine ⟨kvs ++ [(name, rv)], ⟨_, _, _, D', ⟨rfl, rfl, rfl⟩, rfl, ?_, ?_, ?_⟩, by simp [g4], ?_⟩
    · intro e he
      rcases Array.mem_push.mp he with he | rfl
      · exact q6 e he
      · exact ⟨name, strKind_is _ _ name _, rfl⟩
    · rw [Array.toList_push]
      exact q7.append (strKind_is _ _ name _) _ _
    · rw [List.map_append]
      refine List.nodup_append.mpr ⟨q8, by simp, fun a ha b hb => ?_⟩
      simp at hb
      subst hb
      rintro rfl
      exact hnn ha
    · rw [List.map_append, List.map_append]
      exact (VRs.mono K _ _ g5).append (VRs.one (VR.mono K _ _ hv))
  exact kk _ _ S' G'

theorem WpX_setattr {C : Addr} {o value : Expr} {name : Str} {p pos : Pos} {Φ : Fl → Loc → List O → Prop} (S : SetK c C name)
    (h : WpE c n sc m σ value fun v σ₁ => WpE c n sc m σ₁ o fun a σ₂ => ∃ i es, a = .inst C i ∧ σ₂[i]? = some (.sdict es) ∧ getK es name = none ∧ es.length ≤ 900 ∧ Φ .next m (σ₂.set i (.sdict (es ++ [(name, v)]))))
    (hs : ∀ env, swapsWith value (some (.Attribute o name p)) pos.line env = pure false := by intro _; rfl) : WpX c n sc m σ (.Assign [.Attribute o name p] value pos) Φ := by
  intro A env μ s Q E hR hG hF kk
  refine plainObj_wpAny_Assign_Attribute (h A env μ s _ E hR hG hF fun rv v σ₁ μ₁ h₁ tk₁ hv S₁ G₁ V₁ => ?_) (hs env)
  have F₁ := hF.step S₁
  refine hv A env μ₁ _ _ E hR G₁ F₁ fun ro a σ₂ μ₂ h₂ tk₂ ha S₂ G₂ V₂ => ?_
  obtain ⟨i, es, rfl, h1, h2, h3, hΦ⟩ := ha
  exact setattr_new (s := { s with heap := h₂, toks := tk₂ }) S G₂ V₂ h1 h2 h3 (S₂.vr V₁) fun h' tk S' G' => kk .next .next m _ μ₂ h' tk hΦ ((S₁.trans S₂).trans S').widen G' ((F₁.step S₂).step S') rfl

structure MakeK (c : Cx) (C fI : Addr) : Prop where
  mk_ : makesIn c.K C = true
  ini : findIn c.K (.ref C) "__init__" = some (some (.ref fI))
  fn : typeIn c.K (.ref fI) = some (.type "function")

/-- C(): a new object; its __init__ runs over it -/
theorem WpC_make {C fI : Addr} {Φ : V → List O → Prop} (M : MakeK c C fI) (h : WpK c n (.ref fI) (σ ++ [.sdict []]) [.inst C σ.length] fun v σ' => v = .none ∧ ∃ es, σ'[σ.length]? = some (.sdict es) ∧ Φ (.inst C σ.length) σ') : WpC c (n + 1) (.ref C) σ [] Φ := by
  intro A μ s vs Q E hR hG hv kk
  rw [VRs.nil_inv hv]
  refine wpAny_call ?_
  have X := hG.kin
  obtain ⟨hh, g, d, t, os⟩ := s
  refine make_core (makes_of X M.mk_) (looks_findIn X M.ini) (fun self => bind_fn X self M.fn) (.inr ⟨rfl, rfl⟩) ?_
  have hnew : (hh.push emptyDict).DictOf (strKind c.prog c.w) hh.objs.size [] := Heap.DictOf.new hh
  obtain ⟨G₁, S₁⟩ := HG.fresh1 (h' := hh.push emptyDict) (x := .sdict []) hG (fun a o e => Heap.get?_push_of_some _ e) (get_size _) (HG.two hG) ⟨[], hnew, rfl, VRs.nil⟩
  have G₂ := G₁.push (instObj C hh.objs.size)
  have S₂ : Step [] (μ ++ [hh.objs.size]) (hh.push emptyDict) (μ ++ [hh.objs.size]) ((hh.push emptyDict).push (instObj C hh.objs.size)) := Step.push _
  have hsz : (hh.push emptyDict).objs.size = hh.objs.size + 1 := Heap.size_push ..
  have at_ : (μ ++ [hh.objs.size])[σ.length]? = some hh.objs.size := by rw [hG.len, List.getElem?_append_right (Nat.le_refl _)]; simp
  have V : ∀ {μ' : List Addr} {h' : Heap}, Step [] (μ ++ [hh.objs.size]) ((hh.push emptyDict).push (instObj C hh.objs.size)) μ' h' → VR h' μ' (.inst C σ.length) (.ref (hh.objs.size + 1)) := fun S => by
    refine S.vr ?_
    exact ⟨hh.objs.size + 1, hh.objs.size, rfl, by rw [← hsz]; exact G₁.size_off, by rw [← hsz]; exact Heap.get?_push_size _ rfl, at_⟩
  have R1 : Room n (A.under (.builtin "type.__call__" ⟨[.ref C], []⟩)) := by
    refine ⟨hR.hand, ?_, ?_⟩
    · have := hR.depth
      show A.depth + _ + 2 * n + 2 < 1000
      have : (Code.builtin "type.__call__" ⟨[.ref C], []⟩).weight ≤ 1 := Nat.le_refl 1
      (first | lia | omega)
    · have := hR.units
      show A.units + _ + 20 * n + 100 < 9900
      have : (Code.builtin "type.__call__" ⟨[.ref C], []⟩).cUnits ≤ 15 := by have : (Code.builtin "type.__call__" ⟨[.ref C], []⟩).cUnits = 1 := rfl; (first | lia | omega)
      (first | lia | omega)
  have go := h (A.under (.builtin "type.__call__" ⟨[.ref C], []⟩)) (μ ++ [hh.objs.size]) ⟨(hh.push emptyDict).push (instObj C hh.objs.size), g, d, t, os⟩ [.ref (hh.objs.size + 1)] (fun r s' => r = .none ∧ Q (.ref (hh.objs.size + 1)) s') E R1 G₂ (VRs.one (V (Step.refl _ _ _))) fun r v σ' μ' h' tk hΦ S' G' V' => by
    obtain ⟨rfl, es, _, hΦ⟩ := hΦ
    exact ⟨V'.none_inv, kk _ _ σ' μ' h' tk hΦ ((S₁.trans S₂).trans S') G' (V S')⟩
  refine codeAny_mono go fun r s' z => ?_
  rcases r with e | (v | _ | _ | _) <;> first | exact z | exact z.elim
end
end Mine
end

/-! part L23 -/
section
open PySem PySem.W PySem.Calls PyProof.Rows
set_option Elab.async false
set_option autoImplicit false
set_option linter.all false
set_option maxRecDepth 100000
namespace Mine
section
variable {c : Cx} {n : Nat} {sc : Scope} {m : Loc} {σ : List O}

/-- {k1: e1, k2: e2}, two texts as keys: a new dict, tracked -/
theorem WpE_dict2 {k1 k2 : Str} {q1 q2 : Nat} {p1 p2 pos : Pos} {e1 e2 : Expr} {Φ : V → List O → Prop} (hne : k1 ≠ k2)
    (h : WpE c n sc m (σ ++ [.sdict []]) e1 fun v1 σ₁ => WpE c n sc m σ₁ e2 fun v2 σ₂ => σ₂[σ.length]? = some (.sdict []) ∧ Φ (.ref σ.length) (σ₂.set σ.length (.sdict [(k1, v1), (k2, v2)]))) :
    WpE c n sc m σ (.Dict [some (.Constant (.str k1) q1 p1), some (.Constant (.str k2) q2 p2)] [e1, e2] pos) Φ := by
  intro A env μ s Q E hR hG hF kk
  obtain ⟨G₀, S₀⟩ := hG.alloc (dctO #[] 0) (x := .sdict []) ⟨[], Heap.DictOf.new _, rfl, VRs.nil⟩
  have hD : (μ ++ [s.heap.objs.size])[σ.length]? = some s.heap.objs.size := by rw [hG.len, List.getElem?_append_right (Nat.le_refl _)]; simp
  have F₀ := hF.step S₀
  refine wpAny_Dict_walk (knd := strKind c.prog c.w) rfl rfl (by simp) (by simp) ?_
  refine pairTrees_cons_walk (wpAny_Constant_str ?_)
  refine h A env (μ ++ [s.heap.objs.size]) { s with heap := s.heap.push (dctO #[] 0), toks := s.toks + 1 } _ E hR G₀ F₀ fun r1 v1 σ₁ μ₁ h₁ tk₁ hv S₁ G₁ V₁ => ?_
  have F₁ := F₀.step S₁
  refine pairTrees_cons_walk (wpAny_Constant_str ?_)
  refine hv A env μ₁ { s with heap := h₁, toks := tk₁ + 1 } _ E hR G₁ F₁ fun r2 v2 σ₂ μ₂ h₂ tk₂ hv S₂ G₂ V₂ => ?_
  obtain ⟨hi, hΦ⟩ := hv
  have hD₂ := S₂.idx (S₁.idx hD)
  obtain ⟨kvs, g1, g2, g3⟩ := G₂.rel _ _ _ hi hD₂
  have hk0 : kvs = [] := by simpa using g2
  subst hk0
  refine pairTrees_nil_walk ?_
  refine ⟨[(k1, r1), (k2, r2)], ?_, g1, fun h' hd hs => ?_⟩
  · exact ⟨strKind_is _ _ k1 _, rfl, strKind_is _ _ k2 _, rfl, trivial⟩
  · have em : merged ([] : List (Str × Value)) [(k1, r1), (k2, r2)] = [(k1, r1), (k2, r2)] := by
      unfold merged stored
      simp [stored, hne]
    rw [em] at hd
    obtain ⟨G', S'⟩ := G₂.modify (x' := .sdict [(k1, v1), (k2, v2)]) hi hD₂ hs fun K => ⟨_, hd, rfl, VRs.cons (VR.mono K _ _ (S₂.vr V₁)) (VRs.one (VR.mono K _ _ V₂))⟩
    exact kk _ (.ref σ.length) _ μ₂ h' _ hΦ (((S₀.trans S₁).trans S₂).trans S') G' ⟨_, rfl, S'.idx hD₂⟩

/-- sorted of a list of at most one thing -/
theorem sorted_small {prog : Program} {w : World} {A : Around} {E : Value → Shared → Prop} {s : Shared} {l : Addr} {vs : List Value} {Q : Value → Shared → Prop} (hl : s.heap.IsList l vs.toArray) (h1 : vs.length < 2)
    (h : Q (.ref (s.heap.objs.size + 1)) { s with heap := sortedAll s.heap vs vs.toArray }) :
    wpAny (model prog w) A (call (.builtin "sorted") [.ref l]) Q E s := by
  refine Calls.call_function_entry kind_sorted plain_sorted entry_sorted (args_sorted1 _) ?_
  unfold Builtin.«sorted»
  refine wpAny_bind (m := checkCount "sorted" 1 1 _) (wpAny_pure ?_)
  refine wpAny_bind (collect_list hl ?_ )
  refine wpAny_bind (wpAny_newList ?_ (by unfold sizeLine; (first | lia | omega)))
  have hsz : ((s.heap.push (seqObj "list" #[] 0)).update s.heap.objs.size (Obj.mapSeq (· ++ vs.toArray))).objs.size = s.heap.objs.size + 1 := by
    rw [Heap.size_update, size_push']
  have hoL : (((s.heap.push (seqObj "list" #[] 0)).update s.heap.objs.size (Obj.mapSeq (· ++ vs.toArray))).push (seqObj "list" vs.toArray 0)).get? (s.heap.objs.size + 1) = some (seqObj "list" vs.toArray 0) := by
    rw [← hsz]; exact Heap.get?_push_size _ rfl
  show wpAny _ _ _ _ _ { s with heap := ((s.heap.push (seqObj "list" #[] 0)).update s.heap.objs.size (Obj.mapSeq (· ++ vs.toArray))).push (seqObj "list" vs.toArray 0) }
  rw [hsz]
  refine wpAny_bind (wpAny_holding (wpAny_call_entry slot_list_sort ⟨_, hoL, rfl⟩ entry_list_sort ?_ (args_list_sort _)))
  rw [list_sort_plain]
  refine wpAny_bind (listItems_at hoL rfl ?_)
  refine wpAny_bind (listUpdate_at hoL rfl ?_)
  generalize hH : ((s.heap.push (seqObj "list" #[] 0)).update s.heap.objs.size (Obj.mapSeq (· ++ vs.toArray))).push (seqObj "list" vs.toArray 0) = H at hoL ⊢
  have ha : s.heap.objs.size + 1 < H.objs.size := Heap.lt_size hoL
  obtain ⟨e1, ho1⟩ : ∃ e1, (H.update (s.heap.objs.size + 1) (Obj.mapSeq fun _ => #[])).get? (s.heap.objs.size + 1) = some (seqObj "list" #[] e1) := ⟨_, get?_update_seq hoL (fun _ => #[])⟩
  refine wpAny_bind (seqEpoch_at ho1 rfl ?_)
  refine wpAny_bind (wpAny_newTuple ?_ (by unfold sizeLine; simp; (first | lia | omega)))
  refine wpAny_bind (wpAny_newList ?_)
  refine wpAny_holding ?_
  have ho6 : (((H.update (s.heap.objs.size + 1) (Obj.mapSeq fun _ => #[])).push (seqObj "tuple" vs.toArray 0)).push (seqObj "list" #[] 0)).get? (s.heap.objs.size + 1) = some (seqObj "list" #[] e1) := by
    rw [Heap.get?_push_ne _ _ _ (by rw [size_push', Heap.size_update]; exact Nat.ne_of_lt (Nat.lt_succ_of_lt ha)), Heap.get?_push_ne _ _ _ (by rw [Heap.size_update]; exact Nat.ne_of_lt ha)]
    exact ho1
  show wpAny (model prog w) _ _ _ _ { s with heap := ((H.update (s.heap.objs.size + 1) (Obj.mapSeq fun _ => #[])).push (seqObj "tuple" vs.toArray 0)).push (seqObj "list" #[] 0) }
  dsimp only
  have h2 : vs.toArray.size < 2 := by simpa using h1
  rw [if_pos h2, if_pos h2]
  refine wpAny_bind (wpAny_pure ?_)
  rw [StateT.run_pure]
  refine wpAny_bind (wpAny_pure ?_)
  dsimp only
  refine wpAny_bind (seqEpoch_at ho6 rfl ?_)
  refine wpAny_bind (listUpdate_at ho6 rfl ?_ (hsz2 := by rw [Array.size_map]; show (vs.toArray.zip vs.toArray).size ≤ _; rw [Array.size_zip, sizeLine_eq]; simp; (first | lia | omega)))
  simp only [bne_self_eq_false, Bool.false_eq_true, if_false]
  refine wpAny_pure ⟨_, rfl, wpAny_pure ⟨_, rfl, ?_⟩⟩
  have e : ((SortSt.mk' general' (vs.toArray.zip vs.toArray) #[] 7 none) : SortSt) = SortSt.mk' general' (vs.toArray.zip vs.toArray) #[] 7 none := rfl
  have e2 : (arrOf (SortSt.mk' general' (vs.toArray.zip vs.toArray) #[] 7 none)).map (·.2) = vs.toArray := by
    rw [show arrOf (SortSt.mk' general' (vs.toArray.zip vs.toArray) #[] 7 none) = vs.toArray.zip vs.toArray from rfl]
    apply Array.toList_inj.mp
    rw [Array.toList_map, Array.toList_zip]
    simp [List.map_snd_zip]
  subst hH
  have e3 : (sortedHeap (((s.heap.push (seqObj "list" #[] 0)).update s.heap.objs.size (Obj.mapSeq (· ++ vs.toArray))).push (seqObj "list" vs.toArray 0)) (s.heap.objs.size + 1) vs ((arrOf (SortSt.mk' general' (vs.toArray.zip vs.toArray) #[] 7 none)).map (·.2))) = sortedAll s.heap vs vs.toArray := by rw [e2]; rfl
  rw [← e3] at h
  exact h

theorem WpC_sorted1 {xs : List V} {Φ : V → List O → Prop} (hz : xs.length < 2) (h : Φ (.lst xs) σ) : WpC c n (.builtin "sorted") σ [.lst xs] Φ := by
  intro A μ s vs Q E hR hG hv kk
  have kk : Kont c μ s Φ Q := kk
  obtain ⟨r1, w1, rfl, e1, e2⟩ := VRs.uncons hv
  rw [VRs.nil_inv e2]
  obtain ⟨a, items, q, rfl, h1, h2, h3⟩ := e1.lst_inv
  have hl := h3.length
  refine sorted_small (vs := items.toList) (by rw [Array.toArray_toList]; exact isList_of h2) (by (first | lia | omega)) ?_
  obtain ⟨e, he⟩ := sortedAll_at s.heap items.toList items.toList.toArray
  have hk : ∀ b o, s.heap.get? b = some o → (sortedAll s.heap items.toList items.toList.toArray).get? b = some o := fun b o q => sortedAll_old q
  have hoff : s.heap.objs.size + 1 ∉ μ := fun hm => absurd (hG.lt hm) (Nat.not_lt.mpr (Nat.le_succ _))
  exact kk_keeps (tk := s.toks) kk hG hk (VR.lst hoff he (by rw [Array.toArray_toList]; exact (Step.of_keeps hk).vrs h3)) h
end
end Mine
end

/-! part L24 -/
section
open PySem PySem.W PySem.Calls PyProof.Rows
set_option Elab.async false
set_option autoImplicit false
set_option linter.all false
set_option maxRecDepth 100000
namespace Mine
section
variable {c : Cx} {n : Nat} {sc : Scope}

noncomputable abbrev loopS (Inv : List V → Loc → List O → Prop) (xs : List V) (Φ : Fl → Loc → List O → Prop) : Fl → Loc → List O → Prop := fun fl m'' σ' => match fl with
  | .next => Inv xs m'' σ' | .cont => Inv xs m'' σ' | .brk => Φ .next m'' σ' | .ret v => Φ (.ret v) m'' σ'
theorem forGo_inv {target : Expr} {body : List Stmt} {tr : Option (Nat × List V)} {Φ : Fl → Loc → List O → Prop} (Inv : List V → Loc → List O → Prop) (hnil : ∀ m σ, Inv [] m σ → TrOk σ tr ∧ Φ .next m σ)
    (hcons : ∀ x xs m σ, Inv (x :: xs) m σ → TrOk σ tr ∧ ∃ m', asg1 sc target x m = some m' ∧ WpS c n sc m' σ body (loopS Inv xs Φ)) : ∀ (xs : List V) (m : Loc) (σ : List O), Inv xs m σ → ForGo c n sc target body tr Φ xs m σ
  | [], m, σ, h => hnil m σ h
  | x :: xs, m, σ, h => by
    obtain ⟨h1, m', h2, h3⟩ := hcons x xs m σ h
    refine ⟨h1, m', h2, WpQ.mono h3 fun fl m'' σ' hq => ?_⟩
    cases fl with
    | next => exact forGo_inv Inv hnil hcons xs m'' σ' hq
    | cont => exact forGo_inv Inv hnil hcons xs m'' σ' hq
    | brk => exact hq
    | ret v => exact hq

theorem whGo_inv {test : Expr} {body : List Stmt} {Φ : Fl → Loc → List O → Prop} (Inv : Nat → Loc → List O → Prop)
    (step : ∀ k m σ, Inv k m σ → WpT c n sc m σ test fun b σ₁ => if b then WpS c n sc m σ₁ body fun fl m'' σ' => match fl with
      | .next => ∃ k', k' < k ∧ Inv k' m'' σ' | .cont => ∃ k', k' < k ∧ Inv k' m'' σ' | .brk => Φ .next m'' σ' | .ret v => Φ (.ret v) m'' σ' else Φ .next m σ₁) :
    ∀ (fuel k : Nat) (m : Loc) (σ : List O), k < fuel → Inv k m σ → WhGo c n sc test body Φ fuel m σ
  | 0, k, m, σ, h, _ => absurd h (Nat.not_lt_zero _)
  | fuel + 1, k, m, σ, h, hi => by
    refine Wp.mono (step k m σ hi) fun b σ₁ hb => ?_
    cases b with
    | false => exact hb
    | true =>
      refine WpQ.mono (show WpS _ _ _ _ _ _ _ from hb) fun fl m'' σ' hq => ?_
      cases fl with
      | next => obtain ⟨k', h1, h2⟩ := hq; exact whGo_inv Inv step fuel k' m'' σ' (by (first | lia | omega)) h2
      | cont => obtain ⟨k', h1, h2⟩ := hq; exact whGo_inv Inv step fuel k' m'' σ' (by (first | lia | omega)) h2
      | brk => exact hq
      | ret v => exact hq

theorem upd_eq {m : Loc} {x : Str} {v : V} : upd m x v x = some v := if_pos rfl

/-- a comprehension that takes the things that p holds of, and f of each -/
theorem lvGo_mapE {α : Type} {σ : List O} {target elt : Expr} {ifs : List Expr} {K : Loc → List V → Prop} (enc : α → V) (p : α → Bool) (f : α → V) (fr : Loc → Prop) :
    ∀ (xs : List α) (m : Loc) (acc : List V), fr m → acc.length + xs.length < 1000000 →
      (∀ x ∈ xs, ∀ m acc, fr m → ∃ m', asg1 sc target (enc x) m = some m' ∧ fr m' ∧ IfGo c n sc (σ ++ [.list acc]) m' ifs (fun b => b = p x) ∧ (p x = true → WpE c n sc m' (σ ++ [.list acc]) elt fun v σ' => σ' = σ ++ [.list acc] ∧ v = f x)) →
      (∀ m, fr m → K m (acc ++ (xs.filter p).map f)) → LvGo c n sc σ target ifs (Em1 c n sc σ elt) (xs.map enc) m acc K := by
  intro xs
  induction xs with
  | nil => intro m acc hf _ _ hk; exact (List.append_nil acc) ▸ (show K m (acc ++ []) from hk m hf)
  | cons x xs ih =>
    intro m acc hf hz h hk
    replace hz : acc.length + (xs.length + 1) < 1000000 := hz
    obtain ⟨m', h1, h2, h3, h4⟩ := h x List.mem_cons_self m acc hf
    refine ⟨m', h1, ?_⟩
    have go : ∀ b, b = p x → if b = true then Em1 c n sc σ elt m' acc fun m'' acc' => LvGo c n sc σ target ifs (Em1 c n sc σ elt) (xs.map enc) m'' acc' K else LvGo c n sc σ target ifs (Em1 c n sc σ elt) (xs.map enc) m' acc K := by
      intro b hb
      subst hb
      by_cases hp : p x = true
      · rw [if_pos hp]
        refine ⟨by (first | lia | omega), Wp.mono (h4 hp) fun v σ' hv => ⟨hv.1, ?_⟩⟩
        obtain ⟨_, rfl⟩ := hv
        refine ih m' (acc ++ [f x]) h2 (by rw [List.length_append, List.length_singleton]; (first | lia | omega)) (fun y hy => h y (List.mem_cons_of_mem _ hy)) fun m hm => ?_
        have := hk m hm
        rw [List.filter_cons_of_pos hp] at this
        rw [List.append_assoc]; exact this
      · rw [if_neg hp]
        refine ih m' acc h2 (by (first | lia | omega)) (fun y hy => h y (List.mem_cons_of_mem _ hy)) fun m hm => ?_
        have := hk m hm
        rw [List.filter_cons_of_neg hp] at this
        exact this
    cases ifs with
    | nil => exact go true h3
    | cons t ts => cases ts with
      | nil => exact Wp.mono h3 fun b σ' hb => ⟨hb.1, go b hb.2⟩
      | cons => exact h3.elim
theorem lvGo_map' {σ : List O} {target elt : Expr} {ifs : List Expr} {K : Loc → List V → Prop} (p : V → Bool) (f : V → V) (fr : Loc → Prop) (xs : List V) (m : Loc) (acc : List V) (hf : fr m) (hz : acc.length + xs.length < 1000000)
    (h : ∀ x ∈ xs, ∀ m acc, fr m → ∃ m', asg1 sc target x m = some m' ∧ fr m' ∧ IfGo c n sc (σ ++ [.list acc]) m' ifs (fun b => b = p x) ∧ (p x = true → WpE c n sc m' (σ ++ [.list acc]) elt fun v σ' => σ' = σ ++ [.list acc] ∧ v = f x))
    (hk : ∀ m, fr m → K m (acc ++ (xs.filter p).map f)) : LvGo c n sc σ target ifs (Em1 c n sc σ elt) xs m acc K :=
  (List.map_id xs) ▸ lvGo_mapE (K := K) id p f fr xs m acc hf hz h hk
theorem lvGo_map {σ : List O} {target elt : Expr} {ifs : List Expr} {K : Loc → List V → Prop} (p : V → Bool) (f : V → V) (fr : Loc → Prop) (xs : List V) (m : Loc) (acc : List V) (hf : fr m) (hz : acc.length + xs.length < 1000000)
    (h : ∀ x ∈ xs, ∀ m acc, fr m → ∃ m', asg1 sc target x m = some m' ∧ fr m' ∧ IfGo c n sc (σ ++ [.list acc]) m' ifs (fun b => b = p x) ∧ (p x = true → WpE c n sc m' (σ ++ [.list acc]) elt fun v σ' => σ' = σ ++ [.list acc] ∧ v = f x))
    (hk : ∀ m, K m (acc ++ (xs.filter p).map f)) : LvGo c n sc σ target ifs (Em1 c n sc σ elt) xs m acc K :=
  lvGo_map' p f fr xs m acc hf hz h fun m _ => hk m
end
end Mine
end

/-! part L25 -/
section
open PySem PySem.W PySem.Calls PyProof.Rows
set_option Elab.async false
set_option autoImplicit false
set_option linter.all false
set_option maxRecDepth 100000
namespace Mine
section
variable {c : Cx} {n : Nat} {sc : Scope} {m : Loc} {σ : List O}
noncomputable abbrev plOf (o : Expr) (env : Env) : Sem Bool := do return (← importBound o env).getD true
theorem WpE_mB {T : String} {id : String} {o : Expr} {name : Str} {apos pos : Pos} {args : List Expr} {Φ : V → List O → Prop} (pa : PlainAttrs T) (slot : Slot T name id) (hty : typeOf (.builtin id) = pure (.type "method_descriptor"))
    (he : methEq o name args apos pos (plOf o)) (hs : plainEs args)
    (h : WpE c n sc m σ o fun a σ₁ => ∃ i x, a = .ref i ∧ σ₁[i]? = some x ∧ (match x with | .list _ => T = "list" | .junk => False | _ => T = "dict") ∧ WpEs c n sc m σ₁ args fun xs σ₂ => WpC c n (.builtin id) σ₂ (.ref i :: xs) Φ) : WpE c n sc m σ (.Call (.Attribute o name apos) args [] pos) Φ :=
  WpE_methB pa slot hty h (plOf o) he hs
theorem WpE_m {C f : Addr} {o : Expr} {name : Str} {apos pos : Pos} {args : List Expr} {Φ : V → List O → Prop} (M : MethK c C f name) (he : methEq o name args apos pos (plOf o)) (hs : plainEs args)
    (h : WpE c n sc m σ o fun a σ₁ => ∃ i es, a = .inst C i ∧ σ₁[i]? = some (.sdict es) ∧ getK es name = none ∧ WpEs c n sc m σ₁ args fun xs σ₂ => WpC c n (.ref f) σ₂ (.inst C i :: xs) Φ) : WpE c n sc m σ (.Call (.Attribute o name apos) args [] pos) Φ :=
  WpE_meth M h (plOf o) he hs
theorem setOk_i {r : Nat} {es : List (Int × V)} {j : Int} {v : V} {k : List O → Prop} (h1 : σ[r]? = some (.idict es)) (h2 : es.length < 1000000) (h3 : k (σ.set r (.idict (putK es j v)))) : SetOk σ (.ref r) (.int j) v k := by
  show IdO (σ[r]?) _; rw [h1]; exact ⟨h2, h3⟩
theorem setOk_s {r : Nat} {es : List (Str × V)} {j : Str} {v : V} {k : List O → Prop} (h1 : σ[r]? = some (.sdict es)) (h2 : es.length < 1000000) (h3 : k (σ.set r (.sdict (putK es j v)))) : SetOk σ (.ref r) (.str j) v k := by
  show SdO (σ[r]?) _; rw [h1]; exact ⟨h2, h3⟩
theorem setOk_t {r : Nat} {es : List (TK × V)} {key : TK} {v : V} {k : List O → Prop} (h1 : σ[r]? = some (.tdict es)) (h0 : PyData.strOk key.1 = true) (h4 : getK es key = none) (h2 : es.length < 1000000) (h3 : k (σ.set r (.tdict (es ++ [(key, v)])))) : SetOk σ (.ref r) (keyV key) v k := by
  show TdO (σ[r]?) _; rw [h1]; exact ⟨key, rfl, h0, h4, h2, h3⟩
theorem subOk_i {r : Nat} {es : List (Int × V)} {j : Int} {v : V} {k : V → Prop} (h1 : σ[r]? = some (.idict es)) (h2 : getK es j = some v) (h3 : k v) : SubOk σ (.ref r) (.int j) k := by
  show SubI (σ[r]?) _ _; rw [h1]; exact ⟨v, h2, h3⟩
theorem subOk_s {r : Nat} {es : List (Str × V)} {j : Str} {v : V} {k : V → Prop} (h1 : σ[r]? = some (.sdict es)) (h2 : getK es j = some v) (h3 : k v) : SubOk σ (.ref r) (.str j) k := by
  show SdO (σ[r]?) _; rw [h1]; exact ⟨v, h2, h3⟩
theorem subOk_l {r : Nat} {xs : List V} {j : Int} {v : V} {k : V → Prop} (h1 : σ[r]? = some (.list xs)) (h0 : 0 ≤ j ∧ j < 2 ^ 63) (h2 : pyIdx xs j = some v) (h3 : k v) : SubOk σ (.ref r) (.int j) k := by
  show SubI (σ[r]?) _ _; rw [h1]; exact ⟨h0, v, h2, h3⟩
theorem subOk_t {r : Nat} {es : List (TK × V)} {key : TK} {v : V} {k : V → Prop} (h1 : σ[r]? = some (.tdict es)) (h0 : PyData.strOk key.1 = true) (h2 : getK es key = some v) (h3 : k v) : SubOk σ (.ref r) (keyV key) k := by
  show TdO (σ[r]?) _; rw [h1]; exact ⟨key, v, rfl, h0, h2, h3⟩
theorem items_ref {r : Nat} {xs : List V} {k : List V → Option (Nat × List V) → Prop} (h1 : σ[r]? = some (.list xs)) (h2 : k xs (some (r, xs))) : ItemsOk σ (.ref r) k := by
  show LsO (σ[r]?) _; rw [h1]; exact h2
end
end Mine
end

/-! part L26 -/
section
open PySem PySem.W PySem.Calls PyProof.Rows
set_option Elab.async false
set_option autoImplicit false
set_option linter.all false
set_option maxRecDepth 100000
namespace Mine
section
variable {c : Cx} {n : Nat} {sc : Scope}
theorem lvGo_flatE {α β : Type} {σ : List O} {target t' iter elt : Expr} {ifs : List Expr} {K : Loc → List V → Prop} (encb : β → V) (enc : α → V) (items : β → List α) (p : α → Bool) (f : α → V) (fr : Loc → Prop) :
    ∀ (xs : List β) (m : Loc) (acc : List V), fr m → acc.length + (xs.flatMap items).length < 1000000 →
      (∀ x ∈ xs, ∀ m acc, fr m → ∃ m', asg1 sc target (encb x) m = some m' ∧ fr m' ∧ WpE c n sc m' (σ ++ [.list acc]) iter fun v σ' => σ' = σ ++ [.list acc] ∧ ItemsOk σ v fun ys _ => ys = (items x).map enc) →
      (∀ x ∈ xs.flatMap items, ∀ m acc, fr m → ∃ m', asg1 sc t' (enc x) m = some m' ∧ fr m' ∧ IfGo c n sc (σ ++ [.list acc]) m' ifs (fun b => b = p x) ∧ (p x = true → WpE c n sc m' (σ ++ [.list acc]) elt fun v σ' => σ' = σ ++ [.list acc] ∧ v = f x)) →
      (∀ m, fr m → K m (acc ++ ((xs.flatMap items).filter p).map f)) → LvGo c n sc σ target [] (Em2 c n sc σ t' iter ifs elt) (xs.map encb) m acc K := by
  intro xs
  induction xs with
  | nil => intro m acc hf _ _ _ hk; exact (List.append_nil acc) ▸ (show K m (acc ++ []) from hk m hf)
  | cons x xs ih =>
    intro m acc hf hz h1 h2 hk
    rw [List.flatMap_cons] at hz h2
    simp only [List.flatMap_cons, List.filter_append, List.map_append, ← List.append_assoc] at hk
    rw [List.length_append] at hz
    obtain ⟨m', a1, a2, a3⟩ := h1 x List.mem_cons_self m acc hf
    refine ⟨m', a1, ?_⟩
    show Em2 c n sc σ t' iter ifs elt m' acc _
    refine Wp.mono a3 fun v σ' hv => ⟨hv.1, hv.2.mono fun ys _ e => ?_⟩
    subst e
    refine lvGo_mapE enc p f fr (items x) m' acc a2 (by (first | lia | omega)) (fun y hy => h2 y (List.mem_append_left _ hy)) fun m'' hm => ?_
    refine ih m'' _ hm ?_ (fun y hy => h1 y (List.mem_cons_of_mem _ hy)) (fun y hy => h2 y (List.mem_append_right _ hy)) hk
    have : (((items x).filter p).map f).length ≤ (items x).length := by rw [List.length_map]; exact List.length_filter_le _ _
    rw [List.length_append]; (first | lia | omega)
end
end Mine
end

/-! part L27 -/
section
open PySem PySem.W PySem.Calls PyProof.Rows
set_option Elab.async false
set_option autoImplicit false
set_option linter.all false
set_option maxRecDepth 100000
namespace Mine
theorem slot_seti_next : Slot "set_iterator" "__next__" "set_iterator.__next__" :=
  .of (owner := "set_iterator") (n := "__next__") (by rw [typeLookup_type, builtinLookup_eq_fast]; kernel_rfl) (by decide +kernel) (by decide +kernel) (by decide +kernel)
    (by first | exact .inl (by decide +kernel) | exact .inr (by decide +kernel)) (by rw [isSubtype_type]; kernel_rfl)
theorem entry_seti_next : entryFor table "set_iterator.__next__" = some Builtin.«set_iterator.__next__» := entryFor_of_tree (by kernel_rfl)
theorem owner_seti : Manifest.owners.lookup (String.ofList ['r', 'o', 't', 'a', 'r', 'e', 't', 'i', '_', 't', 'e', 's'].reverse) = some Manifest.sig_set_iterator := by kernel_rfl
theorem args_seti_next (a : Value) : argsOk "set_iterator.__next__" ⟨[a], []⟩ := by
  unfold argsOk; rw [signature?_of (id := "set_iterator.__next__") (n := ['_', '_', 't', 'x', 'e', 'n', '_', '_']) (o := ['r', 'o', 't', 'a', 'r', 'e', 't', 'i', '_', 't', 'e', 's']) (by kernel_rfl) owner_seti]; kernel_rfl
theorem slot_seti_iter : Slot "set_iterator" "__iter__" "set_iterator.__iter__" :=
  .of (owner := "set_iterator") (n := "__iter__") (by rw [typeLookup_type, builtinLookup_eq_fast]; kernel_rfl) (by decide +kernel) (by decide +kernel) (by decide +kernel)
    (by first | exact .inl (by decide +kernel) | exact .inr (by decide +kernel)) (by rw [isSubtype_type]; kernel_rfl)
theorem entry_seti_iter : entryFor table "set_iterator.__iter__" = some Builtin.«dict_keyiterator.__iter__» := entryFor_alias (id' := "dict_keyiterator.__iter__") (by rw [fastTable_eq_tree]; kernel_rfl) rfl (by decide +kernel) (by rw [fastTable_eq_tree]; kernel_rfl)
theorem args_seti_iter (a : Value) : argsOk "set_iterator.__iter__" ⟨[a], []⟩ := by
  unfold argsOk; rw [signature?_of (id := "set_iterator.__iter__") (n := ['_', '_', 'r', 'e', 't', 'i', '_', '_']) (o := ['r', 'o', 't', 'a', 'r', 'e', 't', 'i', '_', 't', 'e', 's']) (by kernel_rfl) owner_seti]; kernel_rfl
theorem entry_set_iter : entryFor table "set.__iter__" = some Builtin.«frozenset.__iter__» := entryFor_alias (id' := "frozenset.__iter__") (by rw [fastTable_eq_tree]; kernel_rfl) rfl (by decide +kernel) (by rw [fastTable_eq_tree]; kernel_rfl)
noncomputable abbrev setO (es : Array (Int × Value)) (ep : Nat) (t : SetTable) : Obj := { cls := .type "set", dict := none, data := .set es ep t, slots := #[] }
noncomputable def isSetIt (h : Heap) (I d : Addr) (slot i n ep : Nat) : Prop := ∃ o, h.get? I = some o ∧ o.cls = .type "set_iterator" ∧ o.data = .fields #[.int slot 0, .int i 0, .ref d, .int n 0, .int ep 0]
structure SmSet (w : World) (es : Array (Int × Value)) (t : SetTable) : Prop where
  one : es.size ≤ 1
  fits : t.fits es.size = true
  led : t.led = !w.params.followText "set-order"
  below0 : SetTable.below t.place 0 = 0
  next : ∀ i slot j, SetTable.below t.place slot = i → t.place[i]? = some j → SetTable.below t.place (j + 1) = i + 1
section
variable {prog : Program} {w : World} {A : Around} {E : Value → Shared → Prop} {s : Shared} {I d : Addr} {es : Array (Int × Value)} {ep : Nat} {t : SetTable}
theorem pick_one (f : Nat → Nat) (S : SmSet w es t) : pickOrder f es = es := by
  obtain ⟨l⟩ := es
  have h1 := S.one
  match l, h1 with
  | [], _ => rfl
  | [x], _ =>
    unfold pickOrder
    simp only [List.size_toArray, List.length_singleton, pickOrder.go, Nat.mod_one]
    rfl
  | _ :: _ :: _, h => exact absurd h (by simp)
theorem setWalk_small {Q : Array (Int × Value) → Shared → Prop} (S : SmSet w es t) (hd : s.heap.get? d = some (setO es ep t)) (hb : w.params.followText "set-order" = true) (hQ : Q es s) : wpAny (model prog w) A (setWalk d) Q E s := by
  unfold setWalk
  refine wpAny_bind (wpAny_setState_of hd rfl S.fits ?_)
  dsimp only
  unfold setsByText
  refine wpAny_bind (wpAny_bind (wpAny_askSetting (wpAny_pure ?_)))
  dsimp only
  rw [show (model prog w).w.params.followText "set-order" = true from hb]
  simp only [↓reduceIte]
  refine wpAny_bind (wpAny_askSetting (wpAny_pure ?_))
  rw [pick_one _ S]
  exact hQ
theorem setNext_small {slot i : Nat} {Q : Option (Value × Nat) → Shared → Prop} (S : SmSet w es t) (hd : s.heap.get? d = some (setO es ep t))
    (hs : w.params.followText "set-order" = false → SetTable.below t.place slot = i)
    (hQ : ∀ slot', (∀ x, es[i]? = some x → w.params.followText "set-order" = false → SetTable.below t.place slot' = i + 1) → Q ((es[i]?).map fun e => (e.2, slot')) s) :
    wpAny (model prog w) A (setNext d slot i ep) Q E s := by
  unfold setNext
  refine wpAny_bind (wpAny_setState_of hd rfl S.fits ?_)
  dsimp only
  unfold setsByText
  refine wpAny_bind (wpAny_bind (wpAny_askSetting (wpAny_pure ?_)))
  dsimp only
  cases hb : w.params.followText "set-order" with
  | true =>
    rw [show (model prog w).w.params.followText "set-order" = true from hb]
    simp only [↓reduceIte, bne_self_eq_false, Bool.false_eq_true]
    refine wpAny_bind (setWalk_small S hd hb ?_)
    exact wpAny_pure (hQ slot fun _ _ h => by rw [hb] at h; cases h)
  | false =>
    rw [show (model prog w).w.params.followText "set-order" = false from hb]
    simp only [↓reduceIte, Bool.false_eq_true]
    have hled : t.led = true := by rw [S.led, hb]; rfl
    have h1 := S.one
    refine wpAny_ite_split (fun hab => absurd hab (show ¬ ((!t.plain && decide (es.size > 1)) = true) by rw [decide_eq_false (by (first | lia | omega))]; simp)) (fun _ => ?_)
    refine wpAny_bind (wpAny_of_eq (a := ()) (show (if (!t.led && !es.isEmpty) = true then unsupported "set:maker-not-led" else pure ()) = pure () by rw [hled]; rfl) ?_)
    refine wpAny_pure ?_
    rw [hs hb]
    have hf := S.fits
    unfold SetTable.fits at hf
    simp only [Bool.and_eq_true, beq_iff_eq, decide_eq_true_eq] at hf
    cases hx : es[i]? with
    | none =>
      have := hQ 0 fun x h => by rw [hx] at h; cases h
      rw [hx] at this
      exact this
    | some x =>
      obtain ⟨hlt, _⟩ := Array.getElem?_eq_some_iff.mp hx
      have hj : t.place[i]? = some (t.place[i]'(by (first | lia | omega))) := Array.getElem?_eq_getElem _
      rw [hj]
      have := hQ (t.place[i]'(by (first | lia | omega)) + 1) fun _ _ _ => S.next i slot _ (hs hb) hj
      rw [hx] at this
      exact this
theorem seti_item {slot i : Nat} {x : Int × Value} {Q : Option Value → Shared → Prop} (S : SmSet w es t) (hit : isSetIt s.heap I d slot i es.size ep) (hd : s.heap.get? d = some (setO es ep t))
    (hs : w.params.followText "set-order" = false → SetTable.below t.place slot = i) (hx : es[i]? = some x)
    (hQ : ∀ h' slot', isSetIt h' I d slot' (i + 1) es.size ep → (w.params.followText "set-order" = false → SetTable.below t.place slot' = i + 1) → (∀ b o, b ≠ I → s.heap.get? b = some o → h'.get? b = some o) → Q (some x.2) { s with heap := h' }) :
    wpAny (model prog w) A (pyNext (.ref I)) Q E s := by
  obtain ⟨o, ho, hc, hdat⟩ := id hit
  unfold pyNext
  refine wpAny_bind (wpAny_attempt (wpAny_callSpecial?_slot (name := Str.ofString "__next__") ⟨o, ho, hc⟩ slot_seti_next
    (wpAny_call_entry slot_seti_next ⟨o, ho, hc⟩ entry_seti_next ?_ (args_seti_next _))))
  unfold Builtin.«set_iterator.__next__»
  refine wpAny_bind (wpAny_pure ?_)
  refine wpAny_bind (wpAny_fieldsOf ho hdat ?_)
  dsimp only
  unfold setEntries
  refine wpAny_bind (wpAny_bind (wpAny_setState_of hd rfl S.fits (wpAny_pure ?_)))
  rw [if_neg (by simp)]
  refine wpAny_bind (setNext_small S hd hs fun slot' hs' => ?_)
  rw [show ((i : Int).toNat) = i from rfl] at hs' ⊢
  rw [hx]
  dsimp only [Option.map_some]
  refine wpAny_bind (wpAny_setField ho hdat (by simp) ?_)
  have ho1 := Heap.get?_update_self (Obj.mapFields (·.setIfInBounds 0 (rawInt (slot' : Int)))) ho (Obj.isFreed_of_fields (Obj.data_mapFields hdat _))
  refine wpAny_bind (wpAny_setField ho1 (Obj.data_mapFields hdat _) (by simp) ?_)
  have ho2 := Heap.get?_update_self (Obj.mapFields (·.setIfInBounds 1 (rawInt ((i : Int) + 1)))) ho1 (Obj.isFreed_of_fields (Obj.data_mapFields (Obj.data_mapFields hdat _) _))
  refine wpAny_pure ⟨_, rfl, wpAny_pure ?_⟩
  refine hQ _ slot' ⟨_, ho2, ?_, ?_⟩ (hs' x hx) fun b o hb e => ?_
  · rw [Obj.cls_mapFields, Obj.cls_mapFields]; exact hc
  · rw [Obj.data_mapFields (Obj.data_mapFields hdat _)]; simp [rawInt]
  · exact (Heap.get?_update_other _ _ (Ne.symm hb)).trans ((Heap.get?_update_other _ _ (Ne.symm hb)).trans e)
theorem seti_end {slot i : Nat} {Q : Option Value → Shared → Prop} (hh : A.handled = none) (S : SmSet w es t) (hit : isSetIt s.heap I d slot i es.size ep) (hd : s.heap.get? d = some (setO es ep t))
    (hs : w.params.followText "set-order" = false → SetTable.below t.place slot = i) (hx : es[i]? = none)
    (hQ : ∀ h', Heap.ExtBut I s.heap h' → Q none { s with heap := h' }) :
    wpAny (model prog w) A (pyNext (.ref I)) Q E s := by
  obtain ⟨o, ho, hc, hdat⟩ := id hit
  unfold pyNext
  refine wpAny_bind (wpAny_attempt (wpAny_callSpecial?_slot (name := Str.ofString "__next__") ⟨o, ho, hc⟩ slot_seti_next
    (wpAny_call_entry slot_seti_next ⟨o, ho, hc⟩ entry_seti_next ?_ (args_seti_next _))))
  unfold Builtin.«set_iterator.__next__»
  refine wpAny_bind (wpAny_pure ?_)
  refine wpAny_bind (wpAny_fieldsOf ho hdat ?_)
  dsimp only
  unfold setEntries
  refine wpAny_bind (wpAny_bind (wpAny_setState_of hd rfl S.fits (wpAny_pure ?_)))
  rw [if_neg (by simp)]
  refine wpAny_bind (setNext_small S hd hs fun slot' hs' => ?_)
  rw [show ((i : Int).toNat) = i from rfl] at hs' ⊢
  rw [hx]
  dsimp only [Option.map_none]
  refine wpAny_bind (wpAny_setField ho hdat (by simp) ?_)
  show wpAny _ _ (newExc (.type "StopIteration") [] >>= _) _ _ _
  refine wpAny_bind ?_
  simp only [newExc, newTuple]
  refine wpAny_bind (wpAny_newObj_type ?_ (by size_fits))
  refine wpAny_bind (m := firstArgMember _ _) (wpAny_of_eq (a := Value.none) (by first | rfl | (simp only [firstArgMember]; rfl)) ?_)
  refine wpAny_newObj_type ?_ (by size_fits)
  simp only [raiseNew]
  refine wpAny_bind (wpAny_handled ?_)
  rw [show A.in1.handled = none from hh]
  refine wpAny_bind (wpAny_pure (wpAny_throw ?_))
  refine wpAny_bind (wpAny_isInstance (T := "StopIteration") (b := true) ⟨_, Heap.get?_push_size _ rfl, rfl⟩ isSubtype_stop ?_)
  exact wpAny_pure (hQ _ (((Heap.SameBut.update ..).extBut.push _).push _))
theorem seti_self {slot i k : Nat} {Q : Value → Shared → Prop} (hit : isSetIt s.heap I d slot i k ep) (hQ : Q (.ref I) s) : wpAny (model prog w) A (pyIter (.ref I)) Q E s := by
  obtain ⟨o, ho, hc, hdat⟩ := id hit
  refine wpAny_pyIter_slot ⟨o, ho, hc⟩ slot_seti_iter (wpAny_call_entry slot_seti_iter ⟨o, ho, hc⟩ entry_seti_iter ?_ (args_seti_iter _))
  show wpAny _ _ (ret (.ref I)) _ _ s
  exact wpAny_pure ⟨_, rfl, "set_iterator", _, ⟨o, ho, hc⟩, slot_seti_next.lookup, hQ⟩
theorem set_iter {Q : Value → Shared → Prop} (S : SmSet w es t) (hd : s.heap.get? d = some (setO es ep t))
    (hQ : Q (.ref s.heap.objs.size) { s with heap := s.heap.push { cls := .type "set_iterator", data := .fields #[.int 0 0, .int 0 0, .ref d, .int es.size 0, .int ep 0] } }) :
    wpAny (model prog w) A (pyIter (.ref d)) Q E s := by
  have hT : s.TypeIs (.ref d) "set" := ⟨_, hd, rfl⟩
  refine wpAny_pyIter_slot hT PySem.F.slot_set_iter (wpAny_call_entry PySem.F.slot_set_iter hT entry_set_iter ?_ (PySem.F.args_set_iter_1 _))
  unfold Builtin.«frozenset.__iter__»
  refine wpAny_bind (wpAny_pure ?_)
  unfold Builtin.Frozenset.sizeOf setEntries
  refine wpAny_bind (wpAny_bind (wpAny_bind (wpAny_setState_of hd rfl S.fits (wpAny_pure (wpAny_pure ?_)))))
  unfold setDrawn
  have hf : (!t.plain && decide (es.size > 1)) = false := by have := S.one; rw [decide_eq_false (by (first | lia | omega))]; simp
  refine wpAny_bind (wpAny_bind (wpAny_setState_of hd rfl S.fits ?_))
  dsimp only
  unfold setsByText
  refine wpAny_bind (wpAny_bind (wpAny_askSetting (wpAny_pure ?_)))
  refine wpAny_pure ?_
  refine wpAny_ite_split (fun hab => absurd hab (show ¬ ((!w.params.followText "set-order" && (!t.plain && decide (es.size > 1))) = true) by rw [hf]; simp)) (fun _ => ?_)
  refine wpAny_bind (wpAny_pure ?_)
  refine wpAny_bind (wpAny_setEpoch_of hd rfl S.fits ?_)
  refine wpAny_bind (wpAny_newObj_type ?_)
  exact wpAny_pure ⟨_, rfl, "set_iterator", _, ⟨_, Heap.get?_push_size _ rfl, rfl⟩, slot_seti_next.lookup, hQ⟩
theorem set_hint {Q : Bool → Shared → Prop} (hT : s.TypeIs (.ref d) "set") (h : Q false s) : wpAny (model prog w) A (Builtin.List.listLengthHint (.ref d)) Q E s := by
  unfold Builtin.List.listLengthHint
  refine wpAny_bind (wpAny_specialOf hT PySem.F.slot_set_len.lookup ?_)
  generalize hid : ("set.__len__" : String) = id0
  wp_delta
  rw [show splitId id0 = some ("set", "__len__") from by subst hid; decide +kernel]
  subst hid
  refine wpAny_bind (wpAny_isInstance (T := "set") (b := true) hT (by rw [isSubtype_type]; kernel_rfl) ?_)
  refine wpAny_ite_split (fun hab => absurd hab (by decide)) (fun _ => ?_)
  refine wpAny_ite_split (fun _ => ?_) (fun hab => absurd (by decide +kernel) hab)
  refine wpAny_bind (wpAny_typeOf hT ?_)
  exact wpAny_pure h
theorem set_walks (hh : A.handled = none) (S : SmSet w es t) (hne : d ≠ I) :
    Walks prog w A I [I, d] [I] es.size (fun i v => ∃ x, es[i]? = some x ∧ v = x.2) (fun i h => (∃ slot, isSetIt h I d slot i es.size ep ∧ (w.params.followText "set-order" = false → SetTable.below t.place slot = i)) ∧ h.get? d = some (setO es ep t)) where
  sub := fun b hb => by simp at hb; simp [hb]
  frame := fun i h h' st hk => by
    obtain ⟨⟨slot, ⟨o, ho, hc, hdt⟩, hs⟩, hd⟩ := st
    exact ⟨⟨slot, ⟨o, hk I (by simp) o ho, hc, hdt⟩, hs⟩, hk d (by simp) _ hd⟩
  item := fun i s Q E hi st hQ => by
    obtain ⟨⟨slot, hit, hs⟩, hd⟩ := st
    have hx : es[i]? = some es[i] := by simp [hi]
    refine seti_item S hit hd hs hx fun h' slot' hit' hs' hk => ?_
    exact hQ _ h' s.toks ⟨_, hx, rfl⟩ ⟨⟨slot', hit', hs'⟩, hk d _ hne hd⟩ fun b o hb e => hk b o (fun h => hb (by simp [h])) e
  done := fun s Q E st hQ => by
    obtain ⟨⟨slot, hit, hs⟩, hd⟩ := st
    exact seti_end hh S hit hd hs (by simp) fun h' he' => hQ h' s.toks fun b o hb e => he' b o (fun h => hb (by simp [h])) e
  self := fun _ _ _ _ st hQ => by
    obtain ⟨⟨slot, hit, hs⟩, hd⟩ := st
    exact seti_self hit hQ
theorem set_src (S : SmSet w es t) : KdlSrc prog w "set" d d es.size (fun i v => ∃ x, es[i]? = some x ∧ v = x.2) (fun h => h.get? d = some (setO es ep t)) where
  type := fun _ hm => ⟨_, hm, rfl⟩
  there := fun _ hm => ⟨Heap.lt_size hm, Heap.lt_size hm⟩
  keep := fun _ _ hm hk => hk d (.inl rfl) _ hm
  notList := by decide
  notTuple := by decide
  hint := fun _ _ _ _ hm hq => set_hint ⟨_, hm, rfl⟩ hq
  iter := fun _ s hh hm => ⟨_, _, (fun _ _ hq => set_iter S hm hq), set_walks hh S (Nat.ne_of_lt (Heap.lt_size hm)), ⟨⟨0, ⟨_, Heap.get?_push_size _ rfl, rfl, rfl⟩, fun _ => S.below0⟩, Heap.get?_push_of_some _ hm⟩⟩
end
theorem smSet_nil (w : World) : SmSet w #[] (.fresh 0 0 (!w.params.followText "set-order")) where
  one := by simp
  fits := rfl
  led := rfl
  below0 := rfl
  next := fun i slot j _ h => by simp [SetTable.fresh] at h
noncomputable abbrev oneT (w : World) (j : Nat) : SetTable := { mask := 7, place := #[j], dummies := #[], finger := 0, led := !w.params.followText "set-order", moves := 0, plain := true }
theorem below_one (j k : Nat) : SetTable.below #[j] k = if j < k then 1 else 0 := by
  show SetTable.below.go #[j] k 1 0 1 = _
  unfold SetTable.below.go
  simp only [Nat.lt_one_iff, ↓reduceIte]
  show (if j < k then SetTable.below.go #[j] k 0 1 1 else SetTable.below.go #[j] k 0 0 0) = _
  split <;> rfl
theorem smSet_one (w : World) (x : Int × Value) (j : Nat) : SmSet w #[x] (oneT w j) where
  one := by simp
  fits := rfl
  led := rfl
  below0 := by rw [below_one]; simp
  next := fun i slot k h1 h2 => by
    rw [below_one] at h1 ⊢
    cases i with
    | zero =>
      have : k = j := by simpa using h2.symm
      subst this; simp
    | succ i => simp at h2
theorem lay_new (w : World) (h : Int) (x : Value) : layNew (.fresh 0 0 (!w.params.followText "set-order")) #[] h x = (#[(h, x)], oneT w (SetTable.bits h % 8), false, false) := by
  rfl
end Mine
end

/-! part L28 -/
section
open PySem PySem.W PySem.Calls PyProof.Rows PySem.Spec
set_option Elab.async false
set_option autoImplicit false
set_option linter.all false
set_option maxRecDepth 100000
namespace Mine
noncomputable abbrev newT (w : World) : SetTable := .fresh 0 0 (!w.params.followText "set-order")
theorem le_one {xs : List (Int × Tok)} (h : xs.length ≤ 1) : xs = [] ∨ ∃ x t, xs = [(x, t)] := by
  cases xs with
  | nil => exact .inl rfl
  | cons p ys =>
    cases ys with
    | nil => exact .inr ⟨p.1, p.2, rfl⟩
    | cons _ _ => simp at h
section
variable {prog : Program} {w : World} {A : Around} {E : Value → Shared → Prop} {s : Shared} {d : Addr}
theorem add_new {x : Int} {tk : Tok} {hsh : Int} {Q : Bool → Shared → Prop} (hd : s.heap.get? d = some (setO #[] 0 (newT w)))
    (hQ : ∀ h', h'.get? d = some (setO #[(hsh, .int x tk)] 1 (oneT w (SetTable.bits hsh % 8))) → Heap.SameBut d s.heap h' → Q true { s with heap := h' }) :
    wpAny (model prog w) A (setAddHashed d (.int x tk) hsh) Q E s := by
  unfold setAddHashed setAddHashedIn
  refine wpAny_holding (wpAny_bind (wpAny_setState_of hd rfl rfl ?_))
  dsimp only
  rw [show byScan (.int x tk) #[] = true by simp [byScan, Value.scannable, scanBound]]
  simp only [↓reduceIte]
  unfold setAddByScan
  refine wpAny_bind ?_
  refine wpAny_bind (wpAny_rule ?_)
  refine wpAny_bind (wpAny_of_eq (a := ScanMet.absent) rfl ?_)
  dsimp only
  rw [lay_new]
  dsimp only
  refine wpAny_bind (wpAny_of_eq (a := ()) rfl ?_)
  simp only [↓reduceIte]
  refine wpAny_bind (wpAny_of_eq (a := true) (by rfl) ?_)
  simp only [↓reduceIte]
  refine wpAny_bind (wpAny_storeSet_of hd rfl ?_ (by show 1 ≤ sizeLine; unfold sizeLine; (first | lia | omega)))
  have hg : (s.heap.update d (Obj.putSet #[(hsh, .int x tk)] (oneT w (SetTable.bits hsh % 8)))).get? d = some (setO #[(hsh, .int x tk)] 1 (oneT w (SetTable.bits hsh % 8))) := by
    have := Heap.get?_update_self (Obj.putSet #[(hsh, .int x tk)] (oneT w (SetTable.bits hsh % 8))) hd (by rw [putSet_of _ _ rfl]; rfl)
    rw [putSet_of _ _ rfl] at this; exact this
  refine wpAny_ite_split (fun hab => absurd hab (show ¬ ((true && decide (1 * 5 ≥ 7 * 3)) = true) from by simp)) (fun _ => ?_)
  exact wpAny_pure (wpAny_pure (hQ _ hg (Heap.SameBut.update ..)))
theorem code_set_new_led (a : Value) {Q₁ : Value → Shared → Prop}
    (h : Q₁ (.ref s.heap.objs.size) { s with heap := s.heap.push (setO #[] 0 (newT w)) }) :
    codeAny (model prog w) A (.call (.builtin "set.__new__") ⟨[.type "set", a], []⟩) (wants Q₁ E) s := by
  refine codeAny_of_tree ?_
  show wpAny _ A.in1 (do checkBuiltinCall "set.__new__" ⟨[.type "set", a], []⟩; again (.builtin "set.__new__" ⟨[.type "set", a], []⟩)) _ _ s
  refine wpAny_bind (wpAny_of_eq (PySem.F.newCall_set_1 a) (wpAny_pure ⟨plainId_quiet PySem.F.plain_set_new _, codeAny_builtin PySem.F.entry_set_new ?_⟩))
  rw [Around.under_plainId PySem.F.plain_set_new _]
  unfold Builtin.«set.__new__» Builtin.Frozenset.newClass
  have hsub := sub_set_self
  obtain ⟨hp, g, dr, tk, os⟩ := s
  dsimp only
  wp_walk
  refine wpAny_askSetting (wpAny_pure ?_)
  dsimp only
  simp only [newObj]
  refine wpAny_bind (wpAny_alloc (wpAny_pure ?_))
  exact wpAny_pure h
/-- what stands in the set made of at most one int -/
noncomputable def setOf1 (w : World) : List (Int × Tok) → Obj
  | [] => setO #[] 0 (newT w)
  | (x, tk) :: _ => setO #[(hashInt x, .int x tk)] 1 (oneT w (SetTable.bits (hashInt x) % 8))
theorem upd_done {I l : Addr} {n : Nat} {P : Nat → Value → Prop} {St : Nat → Heap → Prop} {R : Result → Shared → Prop} (W : Walks prog w A.in1 I [I, l] [I] n P St) (st : St n s.heap)
    (hR : ∀ h' tk, (∀ b o, b ≠ I → s.heap.get? b = some o → h'.get? b = some o) → R (.ok (.ret .none)) { s with heap := h', toks := tk }) :
    codeAny (model prog w) A (.builtin "set.update.loop" ⟨[.ref d, .ref I], []⟩) R s := by
  refine codeAny_builtin PyProof.Rows.F.entry_set_update_loop ?_
  rw [Around.under_plainId PyProof.Rows.F.plain_set_update_loop _]
  show wpAny _ A.in1 (pyNext (.ref I) >>= _) _ _ s
  refine wpAny_bind (W.done s _ _ st fun h' tk hk => ?_)
  show wpAny _ A.in1 (ret Value.none) _ _ _
  exact wpAny_pure (hR h' tk fun b o hb e => hk b o (by simpa using hb) e)
theorem upd_loop {I l : Addr} {xs : List (Int × Tok)} {R : Result → Shared → Prop} (hh : A.handled = none) (h1 : xs.length ≤ 1) (hId : I ≠ d) (hld : l ≠ d) (hIl : l ≠ I)
    (hI : s.heap.IsListIter I l 0) (hl : s.heap.IsList l (xs.map fun p => Value.int p.1 p.2).toArray) (hd : s.heap.get? d = some (setO #[] 0 (newT w)))
    (hR : ∀ h' tk, h'.get? d = some (setOf1 w xs) → (∀ b o, b ≠ d → b ≠ I → s.heap.get? b = some o → h'.get? b = some o) → R (.ok (.ret .none)) { s with heap := h', toks := tk }) :
    codeAny (model prog w) A (.builtin "set.update.loop" ⟨[.ref d, .ref I], []⟩) R s := by
  have hx : xs = [] ∨ ∃ x t, xs = [(x, t)] := le_one h1
  rcases hx with rfl | ⟨x, t, rfl⟩
  · have W := Walks.list (prog := prog) (w := w) (A := A.in1) (show A.in1.handled = none from hh) I l hIl #[]
    have hl' : s.heap.IsList l #[] := hl
    have st : s.heap.IsListIter I l (#[] : Array Value).size ∧ s.heap.IsList l #[] := ⟨hI, hl'⟩
    refine upd_done W st ?_
    intro h' tk hk
    refine hR h' tk ?_ fun b o _ hb e => hk b o hb e
    show h'.get? d = some (setO #[] 0 (newT w))
    exact hk d _ (Ne.symm hId) hd
  · have W := Walks.list (prog := prog) (w := w) (A := A.in1) (show A.in1.handled = none from hh) I l hIl #[Value.int x t]
    refine codeAny_builtin PyProof.Rows.F.entry_set_update_loop ?_
    rw [Around.under_plainId PyProof.Rows.F.plain_set_update_loop _]
    show wpAny _ A.in1 (pyNext (.ref I) >>= _) _ _ s
    have hl' : s.heap.IsList l #[Value.int x t] := hl
    refine wpAny_bind (W.item 0 s _ _ (by simp) ⟨hI, hl'⟩ fun v h' tk hP hst hk => ?_)
    have hv : v = .int x t := by simpa using hP.symm
    subst hv
    show wpAny _ A.in1 (holding [Value.int x t] (setAdd d (.int x t)) >>= _) _ _ _
    refine wpAny_bind (wpAny_holding ?_)
    unfold setAdd
    refine wpAny_holding ?_
    refine wpAny_bind (wpAny_pyHash_int ?_)
    have hd' := hk d _ (by simpa using Ne.symm hId) hd
    refine add_new hd' fun h'' hd'' hsb => ?_
    refine wpAny_pure ⟨plainId_quiet PyProof.Rows.F.plain_set_update_loop _, ?_⟩
    refine upd_done W (W.frame _ _ _ hst fun b hb o e => (hsb.2 b (by
      rcases List.mem_cons.mp hb with q | hb
      · rw [q]; exact hId
      · rw [List.mem_singleton.mp hb]; exact hld)).trans e) fun h3 tk3 hk3 => ?_
    refine hR h3 tk3 (show h3.get? d = some (setO #[(hashInt x, .int x t)] 1 (oneT w (SetTable.bits (hashInt x) % 8))) from hk3 d _ (Ne.symm hId) hd'') fun b o hb1 hb2 e => hk3 b o hb2 ((hsb.2 b hb1).trans (hk b o (by simpa using hb2) e))
set_option maxHeartbeats 3200000 in
/-- set(l), l a list of at most one int -/
theorem call_set1 {l : Addr} {xs : List (Int × Tok)} {Q : Value → Shared → Prop} (hh : A.handled = none) (h1 : xs.length ≤ 1) (hl : s.heap.IsList l (xs.map fun p => Value.int p.1 p.2).toArray)
    (h : ∀ h' tk, h'.get? s.heap.objs.size = some (setOf1 w xs) → (∀ b o, s.heap.get? b = some o → h'.get? b = some o) → Q (.ref s.heap.objs.size) { s with heap := h', toks := tk }) :
    wpAny (model prog w) A (call (.type "set") [.ref l]) Q E s := by
  obtain ⟨c, tl, hmro⟩ := PySem.F.called_set.mro
  have hmade := PySem.F.called_set.made
  have hsub := PySem.F.called_set.sub
  refine wpAny_call (codeAny_of_tree ?_)
  show wpAny _ _ (callAny (.type "set") _) _ _ _
  refine wpAny_pure ⟨Code.quiet_builtin _ (by decide +kernel), codeAny_builtin PySem.F.entry_type_call ?_⟩
  rw [Around.under_plain (weight_type_call_type "set" [.ref l] []) rfl]
  have e1 := PySem.F.called_set.notType
  have e2 := PySem.F.called_set.canCreate
  have hct := PySem.F.typeCall_set_1 (.ref l)
  repeat (any_goals (first | assumption | wp_step))
  refine codeAny_mono (code_set_new_led (w := w) (.ref l) (E := E) (Q₁ := fun obj s₁ => obj = .ref s.heap.objs.size ∧ s₁ = { s with heap := s.heap.push (setO #[] 0 (newT w)) }) ⟨rfl, rfl⟩) fun r s₁ hr => ?_
  cases r with
  | error e => exact hr
  | ok fl =>
    cases fl with
    | ret obj =>
      obtain ⟨rfl, rfl⟩ := hr
      have hS : (s.heap.push (setO #[] 0 (newT w))).get? s.heap.objs.size = some (setO #[] 0 (newT w)) := Heap.get?_push_size _ rfl
      have hT : Shared.TypeIs { s with heap := s.heap.push (setO #[] 0 (newT w)) } (.ref s.heap.objs.size) "set" := ⟨_, hS, rfl⟩
      have hli := PySem.F.called_set.init.lookup
      have hbi := PySem.F.called_set.init.bind (.ref s.heap.objs.size)
      repeat (any_goals (first | assumption | wp_step))
      refine codeAny_mono (codeAny_call_builtin (R := wants (fun r s₂ => r = .none ∧ ∃ h' tk, s₂ = { s with heap := h', toks := tk } ∧ h'.get? s.heap.objs.size = some (setOf1 w xs) ∧
          (∀ b o, s.heap.get? b = some o → h'.get? b = some o)) E) PySem.F.called_set.init.plain PySem.F.entry_set_init (PySem.check_set_init_1 hT ?_)) fun r₂ s₂ hr₂ => ?_
      · obtain ⟨ol, hol, hcl, nl, hdl⟩ := id hl
        obtain ⟨ocls, odict, odata, oslots⟩ := ol
        simp only at hcl hdl
        subst hcl; subst hdl
        have hol' : (s.heap.push (setO #[] 0 (newT w))).get? l = some { cls := .type "list", dict := odict, data := .seq (xs.map fun p => Value.int p.1 p.2).toArray nl, slots := oslots } := Heap.get?_push_of_some _ hol
        have hsls := PySem.F.sub_list_set
        have hslf := PySem.F.sub_list_frozenset
        have hne : (Value.type "list" == Value.type "dict") = false := by decide
        have hl1 : (s.heap.push (setO #[] 0 (newT w))).IsList l (xs.map fun p => Value.int p.1 p.2).toArray := ⟨_, hol', rfl, nl, rfl⟩
        unfold Builtin.«set.__init__» noKeywords Builtin.Frozenset.updateFrom
        generalize hPI : pyIter = PI
        wp_walk
        subst hPI
        refine wpAny_pyIter_list hl1 ?_
        refine wpAny_bind (wpAny_runValue ?_)
        have hlS : l < s.heap.objs.size := Heap.lt_size hol
        have hsz : (s.heap.push (setO #[] 0 (newT w))).objs.size = s.heap.objs.size + 1 := size_push' ..
        refine upd_loop (l := l) (xs := xs) hh h1 (by rw [hsz]; exact Nat.succ_ne_self _) (Nat.ne_of_lt hlS) (by rw [hsz]; exact Nat.ne_of_lt (Nat.lt_succ_of_lt hlS)) ⟨_, Heap.get?_push_size _ rfl, rfl, rfl⟩ (hl1.push _) (Heap.get?_push_of_some _ hS) ?_
        intro h' tk hd' hk
        show wpAny _ _ (pure _) _ _ _
        refine wpAny_pure ?_
        show wpAny _ _ (ret Value.none) _ _ _
        refine wpAny_pure ⟨rfl, h', tk, rfl, hd', fun b o e => ?_⟩
        have hb := Heap.lt_size e
        exact hk b o (Nat.ne_of_lt hb) (by rw [hsz]; exact Nat.ne_of_lt (Nat.lt_succ_of_lt hb)) (Heap.get?_push_of_some _ (Heap.get?_push_of_some _ e))
      · cases r₂ with
        | error e => exact hr₂
        | ok fl₂ =>
          cases fl₂ with
          | ret r =>
            obtain ⟨rfl, h', tk, rfl, hS', hk'⟩ := hr₂
            repeat (any_goals (first | assumption | wp_step))
            exact h _ _ hS' hk'
          | _ => exact hr₂.elim
    | _ => exact hr.elim
end
end Mine
end

/-! part L29 -/
section
open PySem PySem.W PySem.Calls PyProof.Rows PySem.Spec
set_option Elab.async false
set_option autoImplicit false
set_option linter.all false
set_option maxRecDepth 100000
namespace Mine
noncomputable def setE (xs : List (Int × Tok)) : Array (Int × Value) := match xs with
  | [] => #[]
  | (x, tk) :: _ => #[(hashInt x, .int x tk)]
theorem setOf1_is (w : World) {xs : List (Int × Tok)} (h : xs.length ≤ 1) : ∃ ep t, setOf1 w xs = setO (setE xs) ep t ∧ SmSet w (setE xs) t ∧ (setE xs).size = xs.length ∧ ∀ (i : Nat) (x : Int × Value), (setE xs)[i]? = some x → ∃ tk : Tok, x.2 = Value.int ((xs.map (·.1)).getD i 0) tk := by
  rcases le_one h with rfl | ⟨x, t, rfl⟩
  · exact ⟨_, _, rfl, smSet_nil w, rfl, fun i x h => by simp [setE] at h⟩
  · refine ⟨_, _, rfl, smSet_one w _ _, rfl, fun i y h => ?_⟩
    cases i with
    | zero =>
      have : y = (hashInt x, .int x t) := by simpa [setE] using h.symm
      subst this; exact ⟨t, rfl⟩
    | succ i => simp [setE] at h
theorem intsAre_of : ∀ (vs : List Value) (ns : List Int), vs.length = ns.length → (∀ (i : Nat) (v : Value), vs[i]? = some v → ∃ tk : Tok, v = Value.int (ns.getD i 0) tk) → IntsAre vs ns
  | [], [], _, _ => .nil
  | [], _ :: _, h, _ => by simp at h
  | _ :: _, [], h, _ => by simp at h
  | v :: vs, x :: ns, h, hv => by
    obtain ⟨tk, rfl⟩ := hv 0 v rfl
    exact .cons x tk (intsAre_of vs ns (by simpa using h) fun i u hu => by simpa using hv (i + 1) u (by simpa using hu))
section
variable {c : Cx} {n : Nat} {sc : Scope} {m : Loc} {σ : List O}
theorem toks_of : ∀ {ns : List Int} {vs : List Value} {h : Heap} {μ : List Addr}, VRs h μ (ns.map V.int) vs → ∃ xs : List (Int × Tok), xs.map (·.1) = ns ∧ vs = xs.map fun p => Value.int p.1 p.2
  | [], vs, h, μ, e => ⟨[], rfl, VRs.nil_inv e⟩
  | x :: ns, vs, h, μ, e => by
    obtain ⟨v, ws, rfl, h1, h2⟩ := VRs.uncons e
    obtain ⟨t, rfl⟩ := h1.int_inv
    obtain ⟨xs, h3, h4⟩ := toks_of h2
    exact ⟨(x, t) :: xs, by rw [List.map_cons, h3], by rw [List.map_cons, h4]⟩
theorem WpE_sortedset {e : Expr} {p1 p2 p3 pos : Pos} {Φ : V → List O → Prop} (g1 : Glo c "sorted" (.builtin "sorted")) (g2 : Glo c "set" (.type "set"))
    (h : WpE c n sc m σ e fun v σ₁ => ∃ ns : List Int, ns.length ≤ 1 ∧ v = .lst (ns.map V.int) ∧ Φ (.lst (ns.map V.int)) σ₁)
    (hl1 : sc.names.lookup ("sorted" : Str) = some .globalImplicit := by decide +kernel) (hl2 : sc.names.lookup ("set" : Str) = some .globalImplicit := by decide +kernel)
    (hs1 : plainEs [.Call (.Name "set" p2) [e] [] p3] := by intro _ _; rfl) (hs2 : plainEs [e] := by intro _ _; rfl) :
    WpE c n sc m σ (.Call (.Name "sorted" p1) [.Call (.Name "set" p2) [e] [] p3] [] pos) Φ := by
  intro A env μ s Q E hR hG hF kk
  refine Call_ (glo_sound hG hF g1 hl1 (by decide +kernel) (callWith_any trivial hs1 ?_))
  refine Calls.spliced_cons ?_
  refine Call_ (glo_sound hG hF g2 hl2 (by decide +kernel) (callWith_any trivial hs2 ?_))
  refine Calls.spliced_cons (h A env μ s _ E hR hG hF fun r v σ₁ μ₁ h₁ tk₁ hv S₁ G₁ V₁ => ?_)
  obtain ⟨ns, hn, rfl, hΦ⟩ := hv
  refine wpAny_pure ⟨G₁.kin, ?_⟩
  obtain ⟨a, items, q, rfl, h1, h2, h3⟩ := V₁.lst_inv
  obtain ⟨xs, hx1, hx2⟩ := toks_of h3
  have hxl : xs.length ≤ 1 := by rw [← hx1, List.length_map] at hn; exact hn
  have hil : Heap.IsList h₁ a (xs.map fun p => Value.int p.1 p.2).toArray := by
    rw [← hx2, Array.toArray_toList]; exact isList_of h2
  refine call_set1 hR.hand hxl hil fun h' tk hS hk => ?_
  refine Calls.spliced_nil ?_
  refine ⟨(G₁.keeps hk).kin, ?_⟩
  obtain ⟨ep, t, es1, es2, es3, es4⟩ := setOf1_is c.w hxl
  rw [es1] at hS
  show wpAny _ _ (call (Value.builtin "sorted") [Value.ref h₁.objs.size]) _ _ _
  refine call_function_entry kind_sorted plain_sorted entry_sorted (args_sorted1 _) ?_
  unfold Builtin.«sorted»
  refine wpAny_bind (m := checkCount "sorted" 1 1 _) (wpAny_pure ?_)
  refine wpAny_bind (kdu_collect (A := A.in1) (set_src (prog := c.prog) es2) hR.hand hS (by rw [es3]; unfold sizeLine; (first | lia | omega)) fun h2' tk2 acc hk2 hacc => ?_)
  have hal : acc.toList.length = xs.length := by rw [Array.length_toList, ← es3]; exact hacc.1
  have hI : IntsAre acc.toList ns := intsAre_of _ _ (by rw [hal, ← hx1, List.length_map]) fun i v hv => by
    obtain ⟨x, e1, e2⟩ := hacc.2 i v (by rw [← Array.getElem?_toList]; exact hv)
    obtain ⟨tk', e3⟩ := es4 i x e1
    rw [hx1] at e3
    exact ⟨tk', e2.trans e3⟩
  refine wpAny_bind (wpAny_newList ?_ (by rw [hal]; unfold sizeLine; (first | lia | omega)))
  have hoL : (h2'.push (seqObj "list" acc.toList.toArray 0)).get? h2'.objs.size = some (seqObj "list" acc.toList.toArray 0) := Heap.get?_push_size _ rfl
  show wpAny _ _ _ _ _ { heap := h2'.push (seqObj "list" acc.toList.toArray 0), gens := s.gens, drawn := s.drawn, toks := tk2, os := s.os }
  refine wpAny_bind (wpAny_holding (wpAny_call_entry slot_list_sort ⟨_, hoL, rfl⟩ entry_list_sort (list_sort_tree hoL hI (by (first | lia | omega)) fun out ns' a1 a2 a3 => ⟨_, rfl, ?_⟩) (args_list_sort _)))
  refine wpAny_pure ⟨_, rfl, ?_⟩
  obtain ⟨e', he⟩ := sortedHeap_at (out := out) hoL
  have keep : ∀ b o, h₁.get? b = some o → (sortedHeap (h2'.push (seqObj "list" acc.toList.toArray 0)) h2'.objs.size acc.toList out).get? b = some o := fun b o q => by
    have q' := hk2 b o (hk b o q)
    have hlt := Heap.lt_size q'
    rw [sortedHeap_old (Nat.ne_of_lt hlt) (by rw [size_push']; exact Nat.lt_succ_of_lt hlt)]
    exact Heap.get?_push_of_some _ q'
  have hoff : h2'.objs.size ∉ μ₁ := fun hm => by
    obtain ⟨o, ho⟩ := G₁.alive hm
    exact absurd (Heap.lt_size (hk2 _ _ (hk _ _ ho))) (Nat.lt_irrefl _)
  have hns : ns' = ns := by
    have hlen := a2.length_eq
    match ns, hn, ns', a2, hlen with
    | [], _, [], _, _ => rfl
    | [x], _, [y], p, _ => rw [List.perm_singleton.mp p]
    | _ :: _ :: _, h, _, _, _ => simp at h
  subst hns
  refine kk _ (.lst (ns'.map V.int)) σ₁ μ₁ _ tk2 hΦ (S₁.trans (Step.of_keeps keep)) (G₁.keeps keep) (VR.lst hoff he (VRs.of_ints a1))
end
end Mine
end

/-! part L30 -/
section
open PySem PySem.W PySem.Calls PyProof.Rows PySem.Spec
set_option Elab.async false
set_option autoImplicit false
set_option linter.all false
set_option maxRecDepth 100000
namespace Mine
noncomputable def sumTo (a : Int) (n : Nat) : Int := preSum (fun i => a + (i : Int) * 1) n
theorem sumTo_zero (a : Int) : sumTo a 0 = 0 := rfl
theorem sumTo_succ (a : Int) (n : Nat) : sumTo a (n + 1) = sumTo a n + (a + n) := by
  show sumTo a n + (a + (n : Int) * 1) = _
  (first | lia | omega)
section
variable {c : Cx} {n : Nat} {σ : List O}
theorem WpC_sumR {a b : Int} {Φ : V → List O → Prop} (hb : -(2 ^ 62) ≤ a ∧ a < 2 ^ 62 ∧ -(2 ^ 62) ≤ b ∧ b < 2 ^ 62) (h : Φ (.int (sumTo a (b - a).toNat)) σ) : WpC c n (.builtin "sum") σ [.rng a b] Φ := by
  intro A μ s vs Q E hR hG hv kk
  have kk : Kont c μ s Φ Q := kk
  obtain ⟨r1, w1, rfl, e1, e2⟩ := VRs.uncons hv
  rw [VRs.nil_inv e2]
  obtain ⟨r, t, u, w, rfl, h1, h2⟩ := e1.rng_inv
  obtain ⟨b1, b2, b3, b4⟩ := hb
  refine call_sum_walkAnyS (wpAny_pyIter_range h2 (small_one b1 b2 b3 b4) ?_)
  have hz := rangeSize_one a b
  refine ⟨s.heap.objs.size, [s.heap.objs.size], [s.heap.objs.size], _, (b - a).toNat, _, _, fun i => a + (i : Int) * 1, rfl, (Walks.range (A := A.in1) hR.hand _ a 1 (b - a).toNat).toS, ?_, fun x hx => ?_, fun _ _ q => q, fun s' t' hm => ?_⟩
  · show IsRangeIter _ _ (a + ((0 : Nat) : Int) * 1) (((b - a).toNat : Int) - ((0 : Nat) : Int)) 1
    have e : ((b - a).toNat : Int) - ((0 : Nat) : Int) = Builtin.Range.rangeSize a b 1 := by rw [hz]; split <;> (first | lia | omega)
    rw [e, show a + ((0 : Nat) : Int) * 1 = a by (first | lia | omega)]
    exact Heap.get?_push_size _ rfl
  · rw [List.mem_singleton.mp hx]; show _ < (s.heap.push _).objs.size; rw [size_push']; exact Nat.lt_succ_self _
  · obtain ⟨hm1, hm2, hm3, hm4, hm5⟩ := hm
    obtain ⟨h', g', d', tk', o'⟩ := s'
    simp only at hm1 hm2 hm3 hm4 hm5
    subst hm3; subst hm4
    cases hm2
    exact kk_keeps kk hG (old_keptT (h' := h') hm1) (VR.int _ _) h
end
end Mine
end

/-! part K1 -/
section
open PySem PySem.W PySem.Calls PyProof.Rows
set_option Elab.async false
set_option autoImplicit false
set_option linter.all false
set_option maxRecDepth 100000
namespace Mine
/-- the written part of the heap stands as the head found it -/
structure Txt (c : Cx) : Prop where
  k : ∃ P, c.K = K0 P
abbrev IsFn (f : Addr) (fd : FuncData) : Prop := ∀ P, ∃ oc od sl, (K0 P).lookup f = some ⟨oc, od, .func fd, sl⟩
theorem mkDef {f : Addr} {fd : FuncData} {names : List Str} {body : List Stmt} (h1 : IsFn f fd) (h2 : ∀ P, codeIn (K0 P) fd.code fd.qualname = true) (h3 : fd.body = .stmts body) (h4 : fd.closure = []) (h5 : fd.globals = mainGlobals) (h6 : fd.builtins = builtinsNs)
    (h7 : fd.scope.isCoroutine = false) (h8 : fd.scope.isGenerator = false) (h9 : fd.scope.kind = .function) (h10 : ∀ vs : List Value, vs.length = names.length → bindArgs fd ⟨vs, []⟩ = pure (names.zip vs))
    (h11 : (names.all fun x => decide (fd.scope.names.lookup x = some .local) || decide (fd.scope.names.lookup x = some .cell)) = true) (h12 : (fd.scope.names.all fun p => decide (p.2 ≠ .free)) = true) (h13 : ((cellsFrom 0 fd.scope.names []).map (·.1)).Nodup) {c : Cx} (t : Txt c) : DefK c f fd names body := by
  obtain ⟨P, hP⟩ := t.k
  exact ⟨by rw [hP]; exact h1 P, by rw [hP]; exact h2 P, h3, h4, h5, h6, h7, h8, h9, h10, h11, h12, h13⟩
theorem arg1 {p : List Value → Prop} (h : ∀ a, p [a]) : ∀ vs : List Value, vs.length = 1 → p vs := fun vs e => by
  obtain ⟨a, vs, rfl⟩ := List.exists_cons_of_length_eq_add_one e
  cases List.length_eq_zero_iff.mp (Nat.succ.inj e); exact h a
theorem arg2 {p : List Value → Prop} (h : ∀ a0 a1, p [a0, a1]) : ∀ vs : List Value, vs.length = 2 → p vs := fun vs e => by
  obtain ⟨a, vs, rfl⟩ := List.exists_cons_of_length_eq_add_one e
  exact arg1 (p := fun vs => p (a :: vs)) (fun a0 => h a a0) vs (Nat.succ.inj e)
theorem arg3 {p : List Value → Prop} (h : ∀ a0 a1 a2, p [a0, a1, a2]) : ∀ vs : List Value, vs.length = 3 → p vs := fun vs e => by
  obtain ⟨a, vs, rfl⟩ := List.exists_cons_of_length_eq_add_one e
  exact arg2 (p := fun vs => p (a :: vs)) (fun a0 a1 => h a a0 a1) vs (Nat.succ.inj e)
theorem arg4 {p : List Value → Prop} (h : ∀ a0 a1 a2 a3, p [a0, a1, a2, a3]) : ∀ vs : List Value, vs.length = 4 → p vs := fun vs e => by
  obtain ⟨a, vs, rfl⟩ := List.exists_cons_of_length_eq_add_one e
  exact arg3 (p := fun vs => p (a :: vs)) (fun a0 a1 a2 => h a a0 a1 a2) vs (Nat.succ.inj e)
theorem arg5 {p : List Value → Prop} (h : ∀ a0 a1 a2 a3 a4, p [a0, a1, a2, a3, a4]) : ∀ vs : List Value, vs.length = 5 → p vs := fun vs e => by
  obtain ⟨a, vs, rfl⟩ := List.exists_cons_of_length_eq_add_one e
  exact arg4 (p := fun vs => p (a :: vs)) (fun a0 a1 a2 a3 => h a a0 a1 a2 a3) vs (Nat.succ.inj e)
theorem arg6 {p : List Value → Prop} (h : ∀ a0 a1 a2 a3 a4 a5, p [a0, a1, a2, a3, a4, a5]) : ∀ vs : List Value, vs.length = 6 → p vs := fun vs e => by
  obtain ⟨a, vs, rfl⟩ := List.exists_cons_of_length_eq_add_one e
  exact arg5 (p := fun vs => p (a :: vs)) (fun a0 a1 a2 a3 a4 => h a a0 a1 a2 a3 a4) vs (Nat.succ.inj e)

noncomputable def fd_least : { fd : FuncData // IsFn 28 fd } := by exact ⟨_, fun P => ⟨_, _, _, rfl⟩⟩
theorem D_least {c : Cx} (t : Txt c) : DefK c 28 fd_least.1 [("d" : Str)] bd_least.1 :=
  mkDef fd_least.2 (fun P => by kernel_rfl) rfl rfl rfl rfl rfl rfl rfl (by exact arg1 fun a0 => rfl) (by decide +kernel) (by decide +kernel) (by decide +kernel) t

noncomputable def fd_greatest : { fd : FuncData // IsFn 35 fd } := by exact ⟨_, fun P => ⟨_, _, _, rfl⟩⟩
theorem D_greatest {c : Cx} (t : Txt c) : DefK c 35 fd_greatest.1 [("d" : Str)] bd_greatest.1 :=
  mkDef fd_greatest.2 (fun P => by kernel_rfl) rfl rfl rfl rfl rfl rfl rfl (by exact arg1 fun a0 => rfl) (by decide +kernel) (by decide +kernel) (by decide +kernel) t

noncomputable def fd_Flat_init : { fd : FuncData // IsFn 49 fd } := by exact ⟨_, fun P => ⟨_, _, _, rfl⟩⟩
theorem D_Flat_init {c : Cx} (t : Txt c) : DefK c 49 fd_Flat_init.1 [("self" : Str)] bd_Flat_init.1 :=
  mkDef fd_Flat_init.2 (fun P => by kernel_rfl) rfl rfl rfl rfl rfl rfl rfl (by exact arg1 fun a0 => rfl) (by decide +kernel) (by decide +kernel) (by decide +kernel) t

noncomputable def fd_new_var : { fd : FuncData // IsFn 56 fd } := by exact ⟨_, fun P => ⟨_, _, _, rfl⟩⟩
theorem D_new_var {c : Cx} (t : Txt c) : DefK c 56 fd_new_var.1 [("self" : Str), ("name" : Str), ("domain" : Str)] bd_new_var.1 :=
  mkDef fd_new_var.2 (fun P => by kernel_rfl) rfl rfl rfl rfl rfl rfl rfl (by exact arg3 fun a0 a1 a2 => rfl) (by decide +kernel) (by decide +kernel) (by decide +kernel) t

noncomputable def fd_post : { fd : FuncData // IsFn 63 fd } := by exact ⟨_, fun P => ⟨_, _, _, rfl⟩⟩
theorem D_post {c : Cx} (t : Txt c) : DefK c 63 fd_post.1 [("self" : Str), ("told" : Str)] bd_post.1 :=
  mkDef fd_post.2 (fun P => by kernel_rfl) rfl rfl rfl rfl rfl rfl rfl (by exact arg2 fun a0 a1 => rfl) (by decide +kernel) (by decide +kernel) (by decide +kernel) t

noncomputable def fd_size : { fd : FuncData // IsFn 70 fd } := by exact ⟨_, fun P => ⟨_, _, _, rfl⟩⟩
theorem D_size {c : Cx} (t : Txt c) : DefK c 70 fd_size.1 [("self" : Str)] bd_size.1 :=
  mkDef fd_size.2 (fun P => by kernel_rfl) rfl rfl rfl rfl rfl rfl rfl (by exact arg1 fun a0 => rfl) (by decide +kernel) (by decide +kernel) (by decide +kernel) t

noncomputable def fd_domain_of : { fd : FuncData // IsFn 77 fd } := by exact ⟨_, fun P => ⟨_, _, _, rfl⟩⟩
theorem D_domain_of {c : Cx} (t : Txt c) : DefK c 77 fd_domain_of.1 [("self" : Str), ("x" : Str)] bd_domain_of.1 :=
  mkDef fd_domain_of.2 (fun P => by kernel_rfl) rfl rfl rfl rfl rfl rfl rfl (by exact arg2 fun a0 a1 => rfl) (by decide +kernel) (by decide +kernel) (by decide +kernel) t

noncomputable def fd_within_figures : { fd : FuncData // IsFn 132 fd } := by exact ⟨_, fun P => ⟨_, _, _, rfl⟩⟩
theorem D_within_figures {c : Cx} (t : Txt c) : DefK c 132 fd_within_figures.1 [("number" : Str)] bd_within_figures.1 :=
  mkDef fd_within_figures.2 (fun P => by kernel_rfl) rfl rfl rfl rfl rfl rfl rfl (by exact arg1 fun a0 => rfl) (by decide +kernel) (by decide +kernel) (by decide +kernel) t

noncomputable def fd_is_made : { fd : FuncData // IsFn 141 fd } := by exact ⟨_, fun P => ⟨_, _, _, rfl⟩⟩
theorem D_is_made {c : Cx} (t : Txt c) : DefK c 141 fd_is_made.1 [("value" : Str), ("kind" : Str)] bd_is_made.1 :=
  mkDef fd_is_made.2 (fun P => by kernel_rfl) rfl rfl rfl rfl rfl rfl rfl (by exact arg2 fun a0 a1 => rfl) (by decide +kernel) (by decide +kernel) (by decide +kernel) t

noncomputable def fd_sum_of : { fd : FuncData // IsFn 148 fd } := by exact ⟨_, fun P => ⟨_, _, _, rfl⟩⟩
theorem D_sum_of {c : Cx} (t : Txt c) : DefK c 148 fd_sum_of.1 [("value" : Str)] bd_sum_of.1 :=
  mkDef fd_sum_of.2 (fun P => by kernel_rfl) rfl rfl rfl rfl rfl rfl rfl (by exact arg1 fun a0 => rfl) (by decide +kernel) (by decide +kernel) (by decide +kernel) t

noncomputable def fd_plus : { fd : FuncData // IsFn 153 fd } := by exact ⟨_, fun P => ⟨_, _, _, rfl⟩⟩
theorem D_plus {c : Cx} (t : Txt c) : DefK c 153 fd_plus.1 [("one" : Str), ("other" : Str), ("factor" : Str)] bd_plus.1 :=
  mkDef fd_plus.2 (fun P => by kernel_rfl) rfl rfl rfl rfl rfl rfl rfl (by exact arg3 fun a0 a1 a2 => rfl) (by decide +kernel) (by decide +kernel) (by decide +kernel) t

noncomputable def fd_contrary : { fd : FuncData // IsFn 160 fd } := by exact ⟨_, fun P => ⟨_, _, _, rfl⟩⟩
theorem D_contrary {c : Cx} (t : Txt c) : DefK c 160 fd_contrary.1 [("truth" : Str)] bd_contrary.1 :=
  mkDef fd_contrary.2 (fun P => by kernel_rfl) rfl rfl rfl rfl rfl rfl rfl (by exact arg1 fun a0 => rfl) (by decide +kernel) (by decide +kernel) (by decide +kernel) t

noncomputable def fd_common_of : { fd : FuncData // IsFn 167 fd } := by exact ⟨_, fun P => ⟨_, _, _, rfl⟩⟩
theorem D_common_of {c : Cx} (t : Txt c) : DefK c 167 fd_common_of.1 [("numbers" : Str)] bd_common_of.1 :=
  mkDef fd_common_of.2 (fun P => by kernel_rfl) rfl rfl rfl rfl rfl rfl rfl (by exact arg1 fun a0 => rfl) (by decide +kernel) (by decide +kernel) (by decide +kernel) t

noncomputable def fd_Gat_init : { fd : FuncData // IsFn 181 fd } := by exact ⟨_, fun P => ⟨_, _, _, rfl⟩⟩
theorem D_Gat_init {c : Cx} (t : Txt c) : DefK c 181 fd_Gat_init.1 [("self" : Str)] bd_Gat_init.1 :=
  mkDef fd_Gat_init.2 (fun P => by kernel_rfl) rfl rfl rfl rfl rfl rfl rfl (by exact arg1 fun a0 => rfl) (by decide +kernel) (by decide +kernel) (by decide +kernel) t

noncomputable def fd_once : { fd : FuncData // IsFn 188 fd } := by exact ⟨_, fun P => ⟨_, _, _, rfl⟩⟩
theorem D_once {c : Cx} (t : Txt c) : DefK c 188 fd_once.1 [("self" : Str), ("key" : Str), ("domain" : Str)] bd_once.1 :=
  mkDef fd_once.2 (fun P => by kernel_rfl) rfl rfl rfl rfl rfl rfl rfl (by exact arg3 fun a0 a1 a2 => rfl) (by decide +kernel) (by decide +kernel) (by decide +kernel) t

noncomputable def fd_bounds : { fd : FuncData // IsFn 195 fd } := by exact ⟨_, fun P => ⟨_, _, _, rfl⟩⟩
theorem D_bounds {c : Cx} (t : Txt c) : DefK c 195 fd_bounds.1 [("self" : Str), ("value" : Str)] bd_bounds.1 :=
  mkDef fd_bounds.2 (fun P => by kernel_rfl) rfl rfl rfl rfl rfl rfl rfl (by exact arg2 fun a0 a1 => rfl) (by decide +kernel) (by decide +kernel) (by decide +kernel) t

noncomputable def fd_row : { fd : FuncData // IsFn 221 fd } := by exact ⟨_, fun P => ⟨_, _, _, rfl⟩⟩
theorem D_row {c : Cx} (t : Txt c) : DefK c 221 fd_row.1 [("self" : Str), ("kind" : Str), ("value" : Str)] bd_row.1 :=
  mkDef fd_row.2 (fun P => by kernel_rfl) rfl rfl rfl rfl rfl rfl rfl (by exact arg3 fun a0 a1 a2 => rfl) (by decide +kernel) (by decide +kernel) (by decide +kernel) t

noncomputable def fd_row_truth : { fd : FuncData // IsFn 226 fd } := by exact ⟨_, fun P => ⟨_, _, _, rfl⟩⟩
theorem D_row_truth {c : Cx} (t : Txt c) : DefK c 226 fd_row_truth.1 [("self" : Str), ("kind" : Str), ("value" : Str)] bd_row_truth.1 :=
  mkDef fd_row_truth.2 (fun P => by kernel_rfl) rfl rfl rfl rfl rfl rfl rfl (by exact arg3 fun a0 a1 a2 => rfl) (by decide +kernel) (by decide +kernel) (by decide +kernel) t

noncomputable def fd_told_truth : { fd : FuncData // IsFn 233 fd } := by exact ⟨_, fun P => ⟨_, _, _, rfl⟩⟩
theorem D_told_truth {c : Cx} (t : Txt c) : DefK c 233 fd_told_truth.1 [("self" : Str), ("told" : Str)] bd_told_truth.1 :=
  mkDef fd_told_truth.2 (fun P => by kernel_rfl) rfl rfl rfl rfl rfl rfl rfl (by exact arg2 fun a0 a1 => rfl) (by decide +kernel) (by decide +kernel) (by decide +kernel) t

noncomputable def fd_require_some : { fd : FuncData // IsFn 259 fd } := by exact ⟨_, fun P => ⟨_, _, _, rfl⟩⟩
theorem D_require_some {c : Cx} (t : Txt c) : DefK c 259 fd_require_some.1 [("self" : Str), ("truths" : Str)] bd_require_some.1 :=
  mkDef fd_require_some.2 (fun P => by kernel_rfl) rfl rfl rfl rfl rfl rfl rfl (by exact arg2 fun a0 a1 => rfl) (by decide +kernel) (by decide +kernel) (by decide +kernel) t

noncomputable def fd_require_row : { fd : FuncData // IsFn 266 fd } := by exact ⟨_, fun P => ⟨_, _, _, rfl⟩⟩
theorem D_require_row {c : Cx} (t : Txt c) : DefK c 266 fd_require_row.1 [("self" : Str), ("kind" : Str), ("value" : Str)] bd_require_row.1 :=
  mkDef fd_require_row.2 (fun P => by kernel_rfl) rfl rfl rfl rfl rfl rfl rfl (by exact arg3 fun a0 a1 a2 => rfl) (by decide +kernel) (by decide +kernel) (by decide +kernel) t

noncomputable def fd_law_next : { fd : FuncData // IsFn 280 fd } := by exact ⟨_, fun P => ⟨_, _, _, rfl⟩⟩
theorem D_law_next {c : Cx} (t : Txt c) : DefK c 280 fd_law_next.1 [("feed" : Str), ("many" : Str)] bd_law_next.1 :=
  mkDef fd_law_next.2 (fun P => by kernel_rfl) rfl rfl rfl rfl rfl rfl rfl (by exact arg2 fun a0 a1 => rfl) (by decide +kernel) (by decide +kernel) (by decide +kernel) t

noncomputable def fd_law_about : { fd : FuncData // IsFn 287 fd } := by exact ⟨_, fun P => ⟨_, _, _, rfl⟩⟩
theorem D_law_about {c : Cx} (t : Txt c) : DefK c 287 fd_law_about.1 [("told" : Str)] bd_law_about.1 :=
  mkDef fd_law_about.2 (fun P => by kernel_rfl) rfl rfl rfl rfl rfl rfl rfl (by exact arg1 fun a0 => rfl) (by decide +kernel) (by decide +kernel) (by decide +kernel) t

noncomputable def fd_law_holds : { fd : FuncData // IsFn 292 fd } := by exact ⟨_, fun P => ⟨_, _, _, rfl⟩⟩
theorem D_law_holds {c : Cx} (t : Txt c) : DefK c 292 fd_law_holds.1 [("told" : Str), ("row" : Str)] bd_law_holds.1 :=
  mkDef fd_law_holds.2 (fun P => by kernel_rfl) rfl rfl rfl rfl rfl rfl rfl (by exact arg2 fun a0 a1 => rfl) (by decide +kernel) (by decide +kernel) (by decide +kernel) t

noncomputable def fd_law_many : { fd : FuncData // IsFn 297 fd } := by exact ⟨_, fun P => ⟨_, _, _, rfl⟩⟩
theorem D_law_many {c : Cx} (t : Txt c) : DefK c 297 fd_law_many.1 [("flat" : Str), ("late" : Str), ("row" : Str)] bd_law_many.1 :=
  mkDef fd_law_many.2 (fun P => by kernel_rfl) rfl rfl rfl rfl rfl rfl rfl (by exact arg3 fun a0 a1 a2 => rfl) (by decide +kernel) (by decide +kernel) (by decide +kernel) t

noncomputable def fd_law_put : { fd : FuncData // IsFn 304 fd } := by exact ⟨_, fun P => ⟨_, _, _, rfl⟩⟩
theorem D_law_put {c : Cx} (t : Txt c) : DefK c 304 fd_law_put.1 [("gatherer" : Str), ("way" : Str), ("total" : Str), ("ends" : Str), ("great" : Str), ("more" : Str)] bd_law_put.1 :=
  mkDef fd_law_put.2 (fun P => by kernel_rfl) rfl rfl rfl rfl rfl rfl rfl (by exact arg6 fun a0 a1 a2 a3 a4 a5 => rfl) (by decide +kernel) (by decide +kernel) (by decide +kernel) t

noncomputable def fd_law : { fd : FuncData // IsFn 309 fd } := by exact ⟨_, fun P => ⟨_, _, _, rfl⟩⟩

theorem M_new_var {c : Cx} (t : Txt c) : MethK c 80 56 "new_var" := by obtain ⟨P, hP⟩ := t.k; exact ⟨by rw [hP]; kernel_rfl, by rw [hP]; kernel_rfl, by rw [hP]; kernel_rfl, by rw [hP]; kernel_rfl⟩
theorem M_post {c : Cx} (t : Txt c) : MethK c 80 63 "post" := by obtain ⟨P, hP⟩ := t.k; exact ⟨by rw [hP]; kernel_rfl, by rw [hP]; kernel_rfl, by rw [hP]; kernel_rfl, by rw [hP]; kernel_rfl⟩
theorem M_size {c : Cx} (t : Txt c) : MethK c 80 70 "size" := by obtain ⟨P, hP⟩ := t.k; exact ⟨by rw [hP]; kernel_rfl, by rw [hP]; kernel_rfl, by rw [hP]; kernel_rfl, by rw [hP]; kernel_rfl⟩
theorem M_domain_of {c : Cx} (t : Txt c) : MethK c 80 77 "domain_of" := by obtain ⟨P, hP⟩ := t.k; exact ⟨by rw [hP]; kernel_rfl, by rw [hP]; kernel_rfl, by rw [hP]; kernel_rfl, by rw [hP]; kernel_rfl⟩
theorem M_once {c : Cx} (t : Txt c) : MethK c 269 188 "once" := by obtain ⟨P, hP⟩ := t.k; exact ⟨by rw [hP]; kernel_rfl, by rw [hP]; kernel_rfl, by rw [hP]; kernel_rfl, by rw [hP]; kernel_rfl⟩
theorem M_bounds {c : Cx} (t : Txt c) : MethK c 269 195 "bounds" := by obtain ⟨P, hP⟩ := t.k; exact ⟨by rw [hP]; kernel_rfl, by rw [hP]; kernel_rfl, by rw [hP]; kernel_rfl, by rw [hP]; kernel_rfl⟩
theorem M_row {c : Cx} (t : Txt c) : MethK c 269 221 "row" := by obtain ⟨P, hP⟩ := t.k; exact ⟨by rw [hP]; kernel_rfl, by rw [hP]; kernel_rfl, by rw [hP]; kernel_rfl, by rw [hP]; kernel_rfl⟩
theorem M_row_truth {c : Cx} (t : Txt c) : MethK c 269 226 "row_truth" := by obtain ⟨P, hP⟩ := t.k; exact ⟨by rw [hP]; kernel_rfl, by rw [hP]; kernel_rfl, by rw [hP]; kernel_rfl, by rw [hP]; kernel_rfl⟩
theorem M_told_truth {c : Cx} (t : Txt c) : MethK c 269 233 "told_truth" := by obtain ⟨P, hP⟩ := t.k; exact ⟨by rw [hP]; kernel_rfl, by rw [hP]; kernel_rfl, by rw [hP]; kernel_rfl, by rw [hP]; kernel_rfl⟩
theorem M_require_some {c : Cx} (t : Txt c) : MethK c 269 259 "require_some" := by obtain ⟨P, hP⟩ := t.k; exact ⟨by rw [hP]; kernel_rfl, by rw [hP]; kernel_rfl, by rw [hP]; kernel_rfl, by rw [hP]; kernel_rfl⟩
theorem M_require_row {c : Cx} (t : Txt c) : MethK c 269 266 "require_row" := by obtain ⟨P, hP⟩ := t.k; exact ⟨by rw [hP]; kernel_rfl, by rw [hP]; kernel_rfl, by rw [hP]; kernel_rfl, by rw [hP]; kernel_rfl⟩
theorem A_vars {c : Cx} (t : Txt c) : AttrK c 80 "vars" := by obtain ⟨P, hP⟩ := t.k; exact ⟨by rw [hP]; kernel_rfl, by rw [hP]; kernel_rfl, none, by rw [hP]; kernel_rfl, by rw [hP]; kernel_rfl⟩
theorem A_tolds {c : Cx} (t : Txt c) : AttrK c 80 "tolds" := by obtain ⟨P, hP⟩ := t.k; exact ⟨by rw [hP]; kernel_rfl, by rw [hP]; kernel_rfl, none, by rw [hP]; kernel_rfl, by rw [hP]; kernel_rfl⟩
theorem A_flat {c : Cx} (t : Txt c) : AttrK c 269 "flat" := by obtain ⟨P, hP⟩ := t.k; exact ⟨by rw [hP]; kernel_rfl, by rw [hP]; kernel_rfl, none, by rw [hP]; kernel_rfl, by rw [hP]; kernel_rfl⟩
theorem A_made {c : Cx} (t : Txt c) : AttrK c 269 "made" := by obtain ⟨P, hP⟩ := t.k; exact ⟨by rw [hP]; kernel_rfl, by rw [hP]; kernel_rfl, none, by rw [hP]; kernel_rfl, by rw [hP]; kernel_rfl⟩
theorem G_least {c : Cx} (t : Txt c) : Glo c "least" (.ref 28) := by obtain ⟨P, hP⟩ := t.k; exact .own (by rw [hP]; kernel_rfl)
theorem C_least {c : Cx} (t : Txt c) : CallKind c (.ref 28) := by obtain ⟨P, hP⟩ := t.k; show keepIn c.K _ = true; rw [hP]; kernel_rfl
theorem G_greatest {c : Cx} (t : Txt c) : Glo c "greatest" (.ref 35) := by obtain ⟨P, hP⟩ := t.k; exact .own (by rw [hP]; kernel_rfl)
theorem C_greatest {c : Cx} (t : Txt c) : CallKind c (.ref 35) := by obtain ⟨P, hP⟩ := t.k; show keepIn c.K _ = true; rw [hP]; kernel_rfl
theorem G_Flat {c : Cx} (t : Txt c) : Glo c "Flat" (.ref 80) := by obtain ⟨P, hP⟩ := t.k; exact .own (by rw [hP]; kernel_rfl)
theorem C_Flat {c : Cx} (t : Txt c) : CallKind c (.ref 80) := by obtain ⟨P, hP⟩ := t.k; show keepIn c.K _ = true; rw [hP]; kernel_rfl
theorem G_within_figures {c : Cx} (t : Txt c) : Glo c "within_figures" (.ref 132) := by obtain ⟨P, hP⟩ := t.k; exact .own (by rw [hP]; kernel_rfl)
theorem C_within_figures {c : Cx} (t : Txt c) : CallKind c (.ref 132) := by obtain ⟨P, hP⟩ := t.k; show keepIn c.K _ = true; rw [hP]; kernel_rfl
theorem G_is_made {c : Cx} (t : Txt c) : Glo c "is_made" (.ref 141) := by obtain ⟨P, hP⟩ := t.k; exact .own (by rw [hP]; kernel_rfl)
theorem C_is_made {c : Cx} (t : Txt c) : CallKind c (.ref 141) := by obtain ⟨P, hP⟩ := t.k; show keepIn c.K _ = true; rw [hP]; kernel_rfl
theorem G_sum_of {c : Cx} (t : Txt c) : Glo c "sum_of" (.ref 148) := by obtain ⟨P, hP⟩ := t.k; exact .own (by rw [hP]; kernel_rfl)
theorem C_sum_of {c : Cx} (t : Txt c) : CallKind c (.ref 148) := by obtain ⟨P, hP⟩ := t.k; show keepIn c.K _ = true; rw [hP]; kernel_rfl
theorem G_plus {c : Cx} (t : Txt c) : Glo c "plus" (.ref 153) := by obtain ⟨P, hP⟩ := t.k; exact .own (by rw [hP]; kernel_rfl)
theorem C_plus {c : Cx} (t : Txt c) : CallKind c (.ref 153) := by obtain ⟨P, hP⟩ := t.k; show keepIn c.K _ = true; rw [hP]; kernel_rfl
theorem G_contrary {c : Cx} (t : Txt c) : Glo c "contrary" (.ref 160) := by obtain ⟨P, hP⟩ := t.k; exact .own (by rw [hP]; kernel_rfl)
theorem C_contrary {c : Cx} (t : Txt c) : CallKind c (.ref 160) := by obtain ⟨P, hP⟩ := t.k; show keepIn c.K _ = true; rw [hP]; kernel_rfl
theorem G_common_of {c : Cx} (t : Txt c) : Glo c "common_of" (.ref 167) := by obtain ⟨P, hP⟩ := t.k; exact .own (by rw [hP]; kernel_rfl)
theorem C_common_of {c : Cx} (t : Txt c) : CallKind c (.ref 167) := by obtain ⟨P, hP⟩ := t.k; show keepIn c.K _ = true; rw [hP]; kernel_rfl
theorem G_Gatherer {c : Cx} (t : Txt c) : Glo c "Gatherer" (.ref 269) := by obtain ⟨P, hP⟩ := t.k; exact .own (by rw [hP]; kernel_rfl)
theorem C_Gatherer {c : Cx} (t : Txt c) : CallKind c (.ref 269) := by obtain ⟨P, hP⟩ := t.k; show keepIn c.K _ = true; rw [hP]; kernel_rfl
theorem G_law_next {c : Cx} (t : Txt c) : Glo c "_law_next" (.ref 280) := by obtain ⟨P, hP⟩ := t.k; exact .own (by rw [hP]; kernel_rfl)
theorem C_law_next {c : Cx} (t : Txt c) : CallKind c (.ref 280) := by obtain ⟨P, hP⟩ := t.k; show keepIn c.K _ = true; rw [hP]; kernel_rfl
theorem G_law_about {c : Cx} (t : Txt c) : Glo c "_law_about" (.ref 287) := by obtain ⟨P, hP⟩ := t.k; exact .own (by rw [hP]; kernel_rfl)
theorem C_law_about {c : Cx} (t : Txt c) : CallKind c (.ref 287) := by obtain ⟨P, hP⟩ := t.k; show keepIn c.K _ = true; rw [hP]; kernel_rfl
theorem G_law_holds {c : Cx} (t : Txt c) : Glo c "_law_holds" (.ref 292) := by obtain ⟨P, hP⟩ := t.k; exact .own (by rw [hP]; kernel_rfl)
theorem C_law_holds {c : Cx} (t : Txt c) : CallKind c (.ref 292) := by obtain ⟨P, hP⟩ := t.k; show keepIn c.K _ = true; rw [hP]; kernel_rfl
theorem G_law_many {c : Cx} (t : Txt c) : Glo c "_law_many" (.ref 297) := by obtain ⟨P, hP⟩ := t.k; exact .own (by rw [hP]; kernel_rfl)
theorem C_law_many {c : Cx} (t : Txt c) : CallKind c (.ref 297) := by obtain ⟨P, hP⟩ := t.k; show keepIn c.K _ = true; rw [hP]; kernel_rfl
theorem G_law_put_together {c : Cx} (t : Txt c) : Glo c "_law_put_together" (.ref 304) := by obtain ⟨P, hP⟩ := t.k; exact .own (by rw [hP]; kernel_rfl)
theorem C_law_put_together {c : Cx} (t : Txt c) : CallKind c (.ref 304) := by obtain ⟨P, hP⟩ := t.k; show keepIn c.K _ = true; rw [hP]; kernel_rfl
theorem G_MOST {c : Cx} (t : Txt c) : ∃ tk, Glo c "MOST_SHOWN" (.int 1000 tk) := by obtain ⟨P, hP⟩ := t.k; exact ⟨_, .own (by rw [hP]; with_unfolding_all rfl)⟩
theorem G_TRUTHS {c : Cx} (t : Txt c) : Glo c "TRUTHS" (.ref 134) := by obtain ⟨P, hP⟩ := t.k; exact .own (by rw [hP]; kernel_rfl)
theorem O_TRUTHS {c : Cx} (t : Txt c) : ∃ a k k' u w, c.K.lookup 134 = some (tupO #[.ref a] k) ∧ c.K.lookup a = some (tupO #[.int 0 u, .int 1 w] k') := by obtain ⟨P, hP⟩ := t.k; rw [hP]; exact ⟨_, _, _, _, _, rfl, rfl⟩
theorem S_vars {c : Cx} (t : Txt c) : SetK c 80 "vars" := by obtain ⟨P, hP⟩ := t.k; exact ⟨by rw [hP]; kernel_rfl, by rw [hP]; kernel_rfl, by rw [hP]; kernel_rfl, by rw [hP]; kernel_rfl⟩
theorem S_tolds {c : Cx} (t : Txt c) : SetK c 80 "tolds" := by obtain ⟨P, hP⟩ := t.k; exact ⟨by rw [hP]; kernel_rfl, by rw [hP]; kernel_rfl, by rw [hP]; kernel_rfl, by rw [hP]; kernel_rfl⟩
theorem S_goal {c : Cx} (t : Txt c) : SetK c 80 "goal" := by obtain ⟨P, hP⟩ := t.k; exact ⟨by rw [hP]; kernel_rfl, by rw [hP]; kernel_rfl, by rw [hP]; kernel_rfl, by rw [hP]; kernel_rfl⟩
theorem S_shown {c : Cx} (t : Txt c) : SetK c 80 "shown" := by obtain ⟨P, hP⟩ := t.k; exact ⟨by rw [hP]; kernel_rfl, by rw [hP]; kernel_rfl, by rw [hP]; kernel_rfl, by rw [hP]; kernel_rfl⟩
theorem S_flat {c : Cx} (t : Txt c) : SetK c 269 "flat" := by obtain ⟨P, hP⟩ := t.k; exact ⟨by rw [hP]; kernel_rfl, by rw [hP]; kernel_rfl, by rw [hP]; kernel_rfl, by rw [hP]; kernel_rfl⟩
theorem S_made {c : Cx} (t : Txt c) : SetK c 269 "made" := by obtain ⟨P, hP⟩ := t.k; exact ⟨by rw [hP]; kernel_rfl, by rw [hP]; kernel_rfl, by rw [hP]; kernel_rfl, by rw [hP]; kernel_rfl⟩
theorem MK_Flat {c : Cx} (t : Txt c) : MakeK c 80 49 := by obtain ⟨P, hP⟩ := t.k; exact ⟨by rw [hP]; kernel_rfl, by rw [hP]; kernel_rfl, by rw [hP]; kernel_rfl⟩
theorem MK_Gat {c : Cx} (t : Txt c) : MakeK c 269 181 := by obtain ⟨P, hP⟩ := t.k; exact ⟨by rw [hP]; kernel_rfl, by rw [hP]; kernel_rfl, by rw [hP]; kernel_rfl⟩
theorem B_len {c : Cx} (t : Txt c) : Glo c "len" (.builtin "len") := by obtain ⟨P, hP⟩ := t.k; exact .blt (by rw [hP]; kernel_rfl) (by kernel_rfl) (by decide +kernel)
theorem B_isinstance {c : Cx} (t : Txt c) : Glo c "isinstance" (.builtin "isinstance") := by obtain ⟨P, hP⟩ := t.k; exact .blt (by rw [hP]; kernel_rfl) (by kernel_rfl) (by decide +kernel)
theorem B_int {c : Cx} (t : Txt c) : Glo c "int" (.type "int") := by obtain ⟨P, hP⟩ := t.k; exact .blt (by rw [hP]; kernel_rfl) (by kernel_rfl) (by decide +kernel)
theorem B_abs {c : Cx} (t : Txt c) : Glo c "abs" (.builtin "abs") := by obtain ⟨P, hP⟩ := t.k; exact .blt (by rw [hP]; kernel_rfl) (by kernel_rfl) (by decide +kernel)
theorem B_max {c : Cx} (t : Txt c) : Glo c "max" (.builtin "max") := by obtain ⟨P, hP⟩ := t.k; exact .blt (by rw [hP]; kernel_rfl) (by kernel_rfl) (by decide +kernel)
theorem B_min {c : Cx} (t : Txt c) : Glo c "min" (.builtin "min") := by obtain ⟨P, hP⟩ := t.k; exact .blt (by rw [hP]; kernel_rfl) (by kernel_rfl) (by decide +kernel)
theorem B_sum {c : Cx} (t : Txt c) : Glo c "sum" (.builtin "sum") := by obtain ⟨P, hP⟩ := t.k; exact .blt (by rw [hP]; kernel_rfl) (by kernel_rfl) (by decide +kernel)
theorem B_range {c : Cx} (t : Txt c) : Glo c "range" (.type "range") := by obtain ⟨P, hP⟩ := t.k; exact .blt (by rw [hP]; kernel_rfl) (by kernel_rfl) (by decide +kernel)
theorem B_sorted {c : Cx} (t : Txt c) : Glo c "sorted" (.builtin "sorted") := by obtain ⟨P, hP⟩ := t.k; exact .blt (by rw [hP]; kernel_rfl) (by kernel_rfl) (by decide +kernel)
theorem B_set {c : Cx} (t : Txt c) : Glo c "set" (.type "set") := by obtain ⟨P, hP⟩ := t.k; exact .blt (by rw [hP]; kernel_rfl) (by kernel_rfl) (by decide +kernel)
theorem B_tuple {c : Cx} (t : Txt c) : Glo c "tuple" (.type "tuple") := by obtain ⟨P, hP⟩ := t.k; exact .blt (by rw [hP]; kernel_rfl) (by kernel_rfl) (by decide +kernel)
theorem B_dict {c : Cx} (t : Txt c) : Glo c "dict" (.type "dict") := by obtain ⟨P, hP⟩ := t.k; exact .blt (by rw [hP]; kernel_rfl) (by kernel_rfl) (by decide +kernel)
theorem B_list {c : Cx} (t : Txt c) : Glo c "list" (.type "list") := by obtain ⟨P, hP⟩ := t.k; exact .blt (by rw [hP]; kernel_rfl) (by kernel_rfl) (by decide +kernel)
theorem B_zip {c : Cx} (t : Txt c) : Glo c "zip" (.type "zip") := by obtain ⟨P, hP⟩ := t.k; exact .blt (by rw [hP]; kernel_rfl) (by kernel_rfl) (by decide +kernel)
theorem B_bool {c : Cx} (t : Txt c) : Glo c "bool" (.type "bool") := by obtain ⟨P, hP⟩ := t.k; exact .blt (by rw [hP]; kernel_rfl) (by kernel_rfl) (by decide +kernel)
end Mine
end

section
open PySem PySem.W PySem.Calls PyProof.Rows
set_option autoImplicit false
set_option linter.all false
set_option maxRecDepth 100000
namespace Mine

/-! part C1 -/
theorem WpE_nm {c : Cx} {n : Nat} {sc : Scope} {m : Loc} {σ : List O} {x : Str} {pos : Pos} {Φ : V → List O → Prop} {v : V} (hk : sc.names.lookup x = some .local ∨ sc.names.lookup x = some .cell ∨ sc.names.lookup x = some .free) (hd : ((x == ("__debug__" : Str)) || (x == ("__classdict__" : Str))) = false)
    (h1 : m x = some v) (h2 : Φ v σ) : WpE c n sc m σ (.Name x pos) Φ := WpE_name h1 h2 hk hd
local macro_rules | `(tactic| walk_at "e") => `(tactic| first
  | ((with_reducible refine WpE_nm ?h3 ?h4 (by with_unfolding_all first | rfl | assumption) ?_); (case h3 => decide +kernel); (case h4 => decide +kernel))
  | with_reducible refine WpE_int ?_ | with_reducible refine WpE_str ?_ | with_reducible refine WpE_bool ?_ | with_reducible refine WpE_none ?_
  | with_reducible refine WpE_bin ?_ | with_reducible refine WpEs_cons ?_ | with_reducible refine WpEs_nil ?_
  | with_reducible refine WpE_neg ?_ | with_reducible refine WpE_not ?_ | with_reducible refine WpE_if ?_ | with_reducible refine WpE_bool1 ?_ | with_reducible refine WpE_and ?_ | with_reducible refine WpE_or ?_
  | ((with_reducible refine WpE_sub ?_ ?h2); (case h2 => intro _ _; with_unfolding_all rfl))
  | ((with_reducible refine WpE_cmp ?_ ?h2); (case h2 => with_unfolding_all rfl))
  | ((with_reducible refine WpE_tuple ?_ ?h2 ?h3); (case h2 => rfl); (case h3 => intro _ _; with_unfolding_all rfl))
  | with_reducible refine WpT_and_nil ?_ | with_reducible refine WpT_or_nil ?_ | with_reducible refine WpT_not ?_ | with_reducible refine WpT_and ?_ | with_reducible refine WpT_or ?_
  | ((with_reducible refine WpT_cmp ?_ ?h2); (case h2 => with_unfolding_all rfl))
  | ((with_reducible refine WpT_plain ?_ ?h2); (case h2 => intro _ _; with_unfolding_all rfl)))
local macro_rules | `(tactic| walk_at "s") => `(tactic| first
  | with_reducible refine WpS_nil ?_ | with_reducible refine WpS_cons ?_
  | with_reducible refine WpX_return ?_ | with_reducible refine WpX_return0 ?_ | with_reducible refine WpX_if ?_ | with_reducible refine WpX_pass ?_
  | ((with_reducible refine WpX_assign ?_ ?h2 ?h3); (case h2 => decide +kernel); (case h3 => intro _; rfl)))
/-! the values of the text, as data -/
structure Sm where
  parts : List (Int × Int)
  k : Int
inductive Tr where
  | bool (b : Bool)
  | bit (x : Int) (s : Bool)
inductive Sv where
  | int (i : Int)
  | sum (s : Sm)
  | tr (t : Tr)
noncomputable def pairV (p : Int × Int) : V := .tup [.int p.1, .int p.2]
noncomputable def Sm.v (s : Sm) : V := .tup [.str "sum", .tup (s.parts.map pairV), .int s.k]
noncomputable def Tr.v : Tr → V
  | .bool b => .bool b
  | .bit x s => .tup [.str "bit", .int x, .bool s]
noncomputable def Sv.v : Sv → V
  | .int i => .int i
  | .sum s => s.v
  | .tr t => t.v
noncomputable def Sv.sm : Sv → Sm
  | .int i => ⟨[], i⟩
  | .sum s => s
  | .tr (.bool b) => ⟨[], if b then 1 else 0⟩
  | .tr (.bit x true) => ⟨[(x, 1)], 0⟩
  | .tr (.bit x false) => ⟨[(x, -1)], 1⟩
noncomputable def Tr.no : Tr → Tr
  | .bool b => .bool (!b)
  | .bit x s => .bit x (!s)

theorem ifT {p q : Prop} {b : Bool} (hb : b = true) (h : p) : if b = true then p else q := by subst hb; exact h
theorem ifF {p q : Prop} {b : Bool} (hb : b = false) (h : q) : if b = true then p else q := by subst hb; exact h
theorem truT {b : Bool} {k : Bool → Prop} (hb : b = true) (h : k true) : TruOk (.bool b) k := by subst hb; exact h
theorem truF {b : Bool} {k : Bool → Prop} (hb : b = false) (h : k false) : TruOk (.bool b) k := by subst hb; exact h
section
variable {c : Cx} {n : Nat} {σ : List O}

noncomputable def madeIs (v : V) (kind : Str) : Bool := match v with
  | .tup [.str k, _, _] => eqV (.str k) (.str kind)
  | _ => false
noncomputable def MadeDom (v : V) : Prop := match v with
  | .int _ => True
  | .bool _ => True
  | .tup [.str k, _, _] => PyData.strOk k = true
  | _ => False
theorem S_is_made (t : Txt c) {v : V} {kind : Str} {Φ : V → List O → Prop} (hv : MadeDom v) (hk : PyData.strOk kind = true) (h : Φ (.bool (madeIs v kind)) σ) : WpC c (n + 1) (.ref 141) σ [v, .str kind] Φ := by
  refine WpC_def (D_is_made t) rfl ?_
  unfold bd_is_made
  dsimp only
  refine WpS_cons (WpX_return ?_)
  refine WpE_and (WpE_isinstance (T := "tuple") (.inl rfl) (B_isinstance t) (B_tuple t) ?_)
  repeat walk_at "e"
  match v, hv, h with
  | .int i, hv, h => exact h
  | .bool b, hv, h => exact h
  | .tup [.str k, a, b], hv, h =>
    show WpE _ _ _ _ _ _ _
    refine WpE_and ?_
    repeat walk_at "e"
    refine WpE_call _ (B_len t) trivial ?_
    repeat walk_at "e"
    refine WpC_len rfl (by simp) ?_
    repeat walk_at "e"
    refine ⟨by rfl, by rfl, ?_⟩
    show WpE _ _ _ _ _ _ _
    refine WpE_bool1 ?_
    repeat walk_at "e"
    refine ⟨by decide, _, rfl, ?_⟩
    repeat walk_at "e"
    exact ⟨hv, hk, h⟩

theorem Sv.dom (v : Sv) : MadeDom v.v := by
  cases v with
  | int i => exact trivial
  | sum s => show PyData.strOk "sum" = true; decide +kernel
  | tr t => cases t with
    | bool b => exact trivial
    | bit x s => show PyData.strOk "bit" = true; decide +kernel
theorem eq_sum_sum : eqV (.str "sum") (.str "sum") = true := by decide +kernel
theorem eq_bit_sum : eqV (.str "bit") (.str "sum") = false := by decide +kernel
theorem eq_bit_bit : eqV (.str "bit") (.str "bit") = true := by decide +kernel

theorem S_sum_of (t : Txt c) {v : Sv} {Φ : V → List O → Prop} (h : Φ v.sm.v σ) : WpC c (n + 2) (.ref 148) σ [v.v] Φ := by
  refine WpC_def (D_sum_of t) rfl ?_
  unfold bd_sum_of
  dsimp only
  refine WpS_cons (WpX_if ?_)
  repeat walk_at "e"
  refine WpE_call _ (G_is_made t) (C_is_made t) ?_
  repeat walk_at "e"
  refine S_is_made t v.dom (by decide +kernel) ?_
  cases v with
  | sum s =>
    refine truT eq_sum_sum (ifT rfl ?_)
    refine WpS_cons (WpX_return ?_)
    repeat walk_at "e"
    exact h
  | int i =>
    show WpS _ _ _ _ _ _ _
    refine WpS_nil ?_
    refine WpS_cons (WpX_if ?_)
    repeat walk_at "e"
    refine WpE_call _ (G_is_made t) (C_is_made t) ?_
    repeat walk_at "e"
    refine S_is_made t (v := .int i) trivial (by decide +kernel) ?_
    show WpS _ _ _ _ _ _ _
    refine WpS_cons (WpX_return ?_)
    repeat walk_at "e"
    refine WpE_call _ (B_int t) trivial ?_
    repeat walk_at "e"
    refine WpC_int ?_
    repeat walk_at "e"
    exact h
  | tr t' =>
    cases t' with
    | bool b =>
      show WpS _ _ _ _ _ _ _
      refine WpS_nil ?_
      refine WpS_cons (WpX_if ?_)
      repeat walk_at "e"
      refine WpE_call _ (G_is_made t) (C_is_made t) ?_
      repeat walk_at "e"
      refine S_is_made t (v := .bool b) trivial (by decide +kernel) ?_
      show WpS _ _ _ _ _ _ _
      refine WpS_cons (WpX_return ?_)
      repeat walk_at "e"
      refine WpE_call _ (B_int t) trivial ?_
      repeat walk_at "e"
      refine WpC_intB ?_
      repeat walk_at "e"
      exact h
    | bit x s =>
      refine truF eq_bit_sum (ifF rfl ?_)
      refine WpS_nil ?_
      refine WpS_cons (WpX_if ?_)
      repeat walk_at "e"
      refine WpE_call _ (G_is_made t) (C_is_made t) ?_
      repeat walk_at "e"
      refine S_is_made t (v := (Tr.bit x s).v) (Sv.dom (.tr (.bit x s))) (by decide +kernel) ?_
      refine truT eq_bit_bit (ifF rfl ?_)
      refine WpS_nil ?_
      refine WpS_cons (WpX_return ?_)
      repeat walk_at "e"
      refine ⟨by decide, _, rfl, ?_⟩
      cases s with
      | true =>
        show WpE _ _ _ _ _ _ _
        repeat walk_at "e"
        refine ⟨by decide, _, rfl, ?_⟩
        repeat walk_at "e"
        exact h
      | false =>
        show WpE _ _ _ _ _ _ _
        repeat walk_at "e"
        refine ⟨by decide, _, rfl, ?_⟩
        repeat walk_at "e"
        exact h
end

/-! part C2 -/
theorem isiBB {b : Bool} {k : Bool → Prop} (h : k true) : IsiOk "bool" (.bool b) k := by
  have e : ("bool" == "bool") = true := by decide
  show k ("bool" == "bool"); rw [e]; exact h
theorem isiBT {xs : List V} {k : Bool → Prop} (h : k false) : IsiOk "bool" (.tup xs) k := by
  have e : ("bool" == "tuple") = false := by decide
  show k ("bool" == "tuple"); rw [e]; exact h
section
variable {c : Cx} {n : Nat} {σ : List O}

theorem S_contrary (t : Txt c) {v : Tr} {Φ : V → List O → Prop} (h : Φ v.no.v σ) : WpC c (n + 1) (.ref 160) σ [v.v] Φ := by
  refine WpC_def (D_contrary t) rfl ?_
  unfold bd_contrary
  dsimp only
  refine WpS_cons (WpX_return ?_)
  refine WpE_if ?_
  walk_at "e"
  refine WpE_isinstance (T := "bool") (.inr rfl) (B_isinstance t) (B_bool t) ?_
  walk_at "e"
  cases v with
  | bool b =>
    refine isiBB ?_
    refine truT rfl ?_
    refine ifT rfl ?_
    repeat walk_at "e"
    exact h
  | bit x s =>
    refine isiBT ?_
    refine truF rfl ?_
    refine ifF rfl ?_
    repeat walk_at "e"
    refine ⟨by decide, _, rfl, ?_⟩
    repeat walk_at "e"
    refine ⟨by decide, _, rfl, ?_⟩
    show WpEs _ _ _ _ _ _ _
    repeat walk_at "e"
    exact h

noncomputable def domV (ds : List (Int × Int)) : V := .tup (ds.map pairV)
theorem S_least (t : Txt c) {a b : Int} {ds : List (Int × Int)} {Φ : V → List O → Prop} (h : Φ (.int a) σ) : WpC c (n + 1) (.ref 28) σ [domV ((a, b) :: ds)] Φ := by
  refine WpC_def (D_least t) rfl ?_
  unfold bd_least
  dsimp only
  refine WpS_cons (WpX_return ?_)
  repeat walk_at "e"
  refine ⟨by decide, _, rfl, ?_⟩
  repeat walk_at "e"
  refine ⟨by decide, _, rfl, ?_⟩
  exact h
theorem pyIdx_last {x : V} {xs : List V} : pyIdx (xs ++ [x]) (-1) = some x := by
  unfold pyIdx
  rw [if_neg (by (first | lia | omega)), if_pos (by simp; (first | lia | omega))]
  have : (-1 + ((xs ++ [x]).length : Int)).toNat = xs.length := by simp; (first | lia | omega)
  rw [this, List.getElem?_append_right (Nat.le_refl _)]; simp
theorem S_greatest (t : Txt c) {a b : Int} {ds : List (Int × Int)} {Φ : V → List O → Prop} (h : Φ (.int b) σ) : WpC c (n + 1) (.ref 35) σ [domV (ds ++ [(a, b)])] Φ := by
  refine WpC_def (D_greatest t) rfl ?_
  unfold bd_greatest
  dsimp only
  refine WpS_cons (WpX_return ?_)
  repeat walk_at "e"
  refine ⟨by decide, pairV (a, b), by rw [List.map_append]; exact pyIdx_last, ?_⟩
  repeat walk_at "e"
  refine ⟨by decide, _, rfl, ?_⟩
  exact h

noncomputable def Bd (i : Int) : Prop := -(10 ^ 60) < i ∧ i < 10 ^ 60
theorem big : (10 : Int) ^ 60 ≤ 10 ^ (1000 : Int).toNat := by decide +kernel
theorem S_within (t : Txt c) {i : Int} {Φ : V → List O → Prop} (hb : Bd i) (h : Φ (.int i) σ) : WpC c (n + 1) (.ref 132) σ [.int i] Φ := by
  refine WpC_def (D_within_figures t) rfl ?_
  unfold bd_within_figures
  dsimp only
  refine WpS_cons (WpX_if ?_)
  repeat walk_at "e"
  refine WpE_call _ (B_abs t) trivial ?_
  repeat walk_at "e"
  refine WpC_abs ?_
  repeat walk_at "e"
  obtain ⟨tk, g⟩ := G_MOST t
  refine WpE_glo g (fun μ h _ => VR.int _ _) ?_
  refine ⟨by decide, by decide +kernel, ?_⟩
  have hf : decide ((10 : Int) ^ (1000 : Int).toNat ≤ if i < 0 then -i else i) = false := by
    have := big
    obtain ⟨h1, h2⟩ := hb
    rw [decide_eq_false_iff_not]
    split <;> (first | lia | omega)
  refine ifF hf ?_
  refine WpS_nil ?_
  refine WpS_cons (WpX_return ?_)
  repeat walk_at "e"
  exact h

/-! the greatest common divisor -/
noncomputable def gcds (xs : List Int) : Int := ((xs.foldl (fun g a => Nat.gcd a.natAbs g) 0 : Nat) : Int)
theorem gcd_step (f r : Nat) (h : 0 < r) : Nat.gcd f r = Nat.gcd r (f % r) := by rw [Nat.gcd_comm f r, Nat.gcd_rec r f, Nat.gcd_comm]


theorem S_common (t : Txt c) {xs : List Int} {Φ : V → List O → Prop} (h : Φ (.int (gcds xs)) σ) : WpC c (n + 1) (.ref 167) σ [.lst (xs.map V.int)] Φ := by
  refine WpC_def (D_common_of t) rfl ?_
  unfold bd_common_of
  dsimp only
  refine WpS_cons ?_
  walk_at "s"
  repeat walk_at "e"
  refine WpS_cons (WpX_for ?_)
  repeat walk_at "e"
  refine forGo_inv (fun vs m σ' => σ' = σ ∧ ∃ ys : List Int, ∃ g : Nat, vs = ys.map V.int ∧ m "found" = some (.int g) ∧ ((ys.foldl (fun g a => Nat.gcd a.natAbs g) g : Nat) : Int) = gcds xs) ?_ ?_ _ _ _ ⟨rfl, xs, 0, rfl, rfl, rfl⟩
  · rintro m σ' ⟨rfl, ys, g, h1, h2, h3⟩
    have : ys = [] := by simpa using h1.symm
    subst this
    refine ⟨trivial, ?_⟩
    refine WpS_cons (WpX_return ?_)
    walk_at "e"
    show Φ (.int (g : Int)) σ'
    rw [show (g : Int) = gcds xs from h3]
    exact h
  · rintro x vs m σ' ⟨rfl, ys, g, h1, h2, h3⟩
    obtain ⟨y, ys', rfl⟩ : ∃ y ys', ys = y :: ys' := by cases ys with
      | nil => simp at h1
      | cons y ys' => exact ⟨y, ys', rfl⟩
    simp only [List.map_cons, List.cons.injEq] at h1
    obtain ⟨rfl, rfl⟩ := h1
    refine ⟨trivial, _, rfl, ?_⟩
    refine WpS_cons ?_
    refine WpX_swap ["found", "rest"] ?_ (by intro env h; cases env; subst h; with_unfolding_all rfl) (by decide +kernel) (by intro env; with_unfolding_all rfl)
    repeat walk_at "e"
    refine WpE_call _ (B_abs t) trivial ?_
    repeat walk_at "e"
    refine WpC_abs ?_
    repeat walk_at "e"
    refine ⟨_, rfl, rfl, ?_⟩
    refine WpS_cons ?_
    have hy : (if y < 0 then -y else y) = ((y.natAbs : Nat) : Int) := by split <;> (first | lia | omega)
    rw [hy]
    refine WpX_while (g + 1) (whGo_inv (fun k m' σ'' => σ'' = σ' ∧ ∃ f r : Nat, k = r ∧ m' "found" = some (.int f) ∧ m' "rest" = some (.int r) ∧ Nat.gcd f r = Nat.gcd y.natAbs g) ?_ _ g _ _ (Nat.lt_succ_self _) ⟨rfl, y.natAbs, g, rfl, rfl, rfl, rfl⟩)
    rintro k m' σ'' ⟨rfl, f, r, rfl, k1, k2, k3⟩
    repeat walk_at "e"
    by_cases hr : (0 : Int) < k
    · refine ifT (decide_eq_true hr) ?_
      refine WpS_cons ?_
      refine WpX_swap ["found", "rest"] ?_ (by intro env h; cases env; subst h; with_unfolding_all rfl) (by decide +kernel) (by intro env; with_unfolding_all rfl)
      repeat walk_at "e"
      refine ⟨by (first | lia | omega), ?_⟩
      repeat walk_at "e"
      refine ⟨_, rfl, rfl, ?_⟩
      refine WpS_nil ?_
      have hk : 0 < k := by (first | lia | omega)
      refine ⟨f % k, Nat.mod_lt _ hk, rfl, k, f % k, rfl, rfl, ?_, ?_⟩
      · show some (V.int ((f : Int).fmod k)) = _
        rw [Int.fmod_eq_emod_of_nonneg _ (by (first | lia | omega))]
        rfl
      · rw [← gcd_step f k hk]; exact k3
    · refine ifF (decide_eq_false hr) ?_
      refine WpS_nil ?_
      have hk : k = 0 := by (first | lia | omega)
      subst hk
      refine ⟨rfl, ys', f, rfl, k1, ?_⟩
      rw [List.foldl_cons, ← k3] at h3
      simpa using h3
end

/-! part D1 -/
/-! dicts of numbers -/
noncomputable def getI (d : List (Int × Int)) (k : Int) : Option Int := (d.find? fun e => decide (e.1 = k)).map (·.2)
noncomputable def putI (d : List (Int × Int)) (k v : Int) : List (Int × Int) := if (getI d k).isSome then d.map (fun e => if e.1 = k then (e.1, v) else e) else d ++ [(k, v)]
noncomputable def liftI (d : List (Int × Int)) : List (Int × V) := d.map fun e => (e.1, V.int e.2)
noncomputable def cf (ps : List (Int × Int)) (x : Int) : Int := (getI ps x).getD 0
theorem getI_lift (d : List (Int × Int)) (k : Int) : getK (liftI d) k = (getI d k).map V.int := by
  induction d with
  | nil => rfl
  | cons e d ih =>
    unfold getK getI liftI at ih ⊢
    by_cases h : e.1 = k
    · simp [h]
    · simpa [h] using ih
theorem putI_lift (d : List (Int × Int)) (k v : Int) : putK (liftI d) k (.int v) = liftI (putI d k v) := by
  unfold putK putI
  rw [getI_lift, Option.isSome_map]
  split
  · unfold liftI
    rw [List.map_map, List.map_map]
    refine List.map_congr_left fun e _ => ?_
    by_cases h : e.1 = k
    · simp [h]
    · simp [h]
  · unfold liftI; simp
theorem getI_nil (k : Int) : getI [] k = none := rfl
theorem getI_cons (e : Int × Int) (d : List (Int × Int)) (k : Int) : getI (e :: d) k = if e.1 = k then some e.2 else getI d k := by
  unfold getI
  by_cases h : e.1 = k
  · simp [h]
  · simp [h]
theorem getI_some_iff {d : List (Int × Int)} {k : Int} : (getI d k).isSome = true ↔ k ∈ d.map (·.1) := by
  induction d with
  | nil => simp [getI]
  | cons e d ih =>
    rw [getI_cons]
    by_cases h : e.1 = k
    · simp [h]
    · rw [if_neg h, ih]
      simp only [List.map_cons, List.mem_cons]
      constructor
      · exact .inr
      · rintro (q | q)
        · exact absurd q.symm h
        · exact q
theorem getI_mem {d : List (Int × Int)} (nd : (d.map (·.1)).Nodup) {k v : Int} : getI d k = some v ↔ (k, v) ∈ d := by
  induction d with
  | nil => simp [getI]
  | cons e d ih =>
    rw [List.map_cons, List.nodup_cons] at nd
    rw [getI_cons]
    by_cases h : e.1 = k
    · rw [if_pos h]
      constructor
      · intro q; cases q; obtain ⟨a, b⟩ := e; simp at h; subst h; exact List.mem_cons_self
      · intro q
        rcases List.mem_cons.mp q with q | q
        · rw [← q]
        · exact absurd (List.mem_map_of_mem (f := (·.1)) q) (by simpa [← h] using nd.1)
    · rw [if_neg h, ih nd.2]
      constructor
      · exact List.mem_cons_of_mem _
      · intro q
        rcases List.mem_cons.mp q with q | q
        · rw [← q] at h; exact absurd rfl h
        · exact q
theorem getI_put (d : List (Int × Int)) (k v x : Int) : getI (putI d k v) x = if k = x then some v else getI d x := by
  unfold putI
  split
  · rename_i h
    have hk := getI_some_iff.mp h
    clear h
    induction d with
    | nil => simp at hk
    | cons e d ih =>
      rw [List.map_cons, getI_cons, getI_cons]
      by_cases he : e.1 = k
      · rw [if_pos he]
        by_cases hx : k = x
        · rw [if_pos hx, if_pos (by rw [← hx]; exact he)]
        · rw [if_neg hx, if_neg (by rw [he]; exact hx)]
          rw [if_neg (by rw [he]; exact hx)]
          by_cases hm : k ∈ d.map (·.1)
          · rw [ih hm, if_neg hx]
          · congr 1
            have : d.map (fun e => if e.1 = k then (e.1, v) else e) = d := by
              conv => rhs; rw [← List.map_id d]
              refine List.map_congr_left fun e' he' => if_neg fun q => hm (by rw [← q]; exact List.mem_map_of_mem he')
            rw [this]
      · rw [if_neg he]
        have hm : k ∈ d.map (·.1) := by
          rcases List.mem_cons.mp hk with q | q
          · exact absurd q.symm he
          · exact q
        rw [ih hm]
        by_cases h1 : e.1 = x
        · rw [if_pos h1, if_pos h1, if_neg (by rw [← h1]; exact fun q => he q.symm)]
        · rw [if_neg h1, if_neg h1]
  · rename_i h
    induction d with
    | nil => simp [getI_cons, getI_nil]
    | cons e d ih =>
      rw [List.cons_append, getI_cons, getI_cons]
      rw [getI_cons] at h
      by_cases he : e.1 = k
      · simp [he] at h
      · rw [if_neg he] at h
        rw [ih h]
        by_cases h1 : e.1 = x
        · rw [if_pos h1, if_pos h1, if_neg (by rw [← h1]; exact fun q => he q.symm)]
        · rw [if_neg h1, if_neg h1]
theorem putI_keys (d : List (Int × Int)) (k v : Int) : ((putI d k v).map (·.1)) = if k ∈ d.map (·.1) then d.map (·.1) else d.map (·.1) ++ [k] := by
  unfold putI
  by_cases h : k ∈ d.map (·.1)
  · rw [if_pos (getI_some_iff.mpr h), if_pos h, List.map_map]
    refine List.map_congr_left fun e _ => ?_
    show (if e.1 = k then (e.1, v) else e).1 = e.1
    split <;> rfl
  · rw [if_neg (fun q => h (getI_some_iff.mp q)), if_neg h]; simp
theorem putI_nodup {d : List (Int × Int)} {k v : Int} (nd : (d.map (·.1)).Nodup) : ((putI d k v).map (·.1)).Nodup := by
  rw [putI_keys]
  split
  · exact nd
  · rename_i h
    exact List.nodup_append.mpr ⟨nd, by simp, fun a ha b hb => by rw [List.mem_singleton.mp hb]; rintro rfl; exact h ha⟩
theorem putI_len (d : List (Int × Int)) (k v : Int) : (putI d k v).length ≤ d.length + 1 := by
  unfold putI; split <;> simp
theorem cf_cons (e : Int × Int) (d : List (Int × Int)) (x : Int) : cf (e :: d) x = if e.1 = x then e.2 else cf d x := by
  unfold cf; rw [getI_cons]; split <;> rfl
theorem cf_not {d : List (Int × Int)} {x : Int} (h : x ∉ d.map (·.1)) : cf d x = 0 := by
  unfold cf
  cases q : getI d x with
  | none => rfl
  | some v => exact absurd (getI_some_iff.mp (by rw [q]; rfl)) h
theorem cf_append {d e : List (Int × Int)} {x : Int} (h : ∀ y ∈ d.map (·.1), y ∉ e.map (·.1)) : cf (d ++ e) x = cf d x + cf e x := by
  induction d with
  | nil => simp [cf, getI_nil]
  | cons a d ih =>
    rw [List.cons_append, cf_cons, cf_cons, ih fun y hy => h y (List.mem_cons_of_mem _ hy)]
    by_cases ha : a.1 = x
    · rw [if_pos ha, if_pos ha, cf_not (d := e) (by rw [← ha]; exact h a.1 (by simp))]; (first | lia | omega)
    · rw [if_neg ha, if_neg ha]

/-- what plus gives -/
structure PlusR (a b : Sm) (f : Int) (s : Sm) : Prop where
  nd : (s.parts.map (·.1)).Nodup
  nz : ∀ p ∈ s.parts, p.2 ≠ 0
  k : s.k = a.k + f * b.k
  cf_ : ∀ x, cf s.parts x = cf a.parts x + f * cf b.parts x
noncomputable def Sm.sv (s : Sm) : Sv := if s.parts = [] then .int s.k else .sum s
theorem Sm.sv_sm (s : Sm) : s.sv.sm = s := by
  unfold Sm.sv
  split
  · rename_i h; obtain ⟨p, k⟩ := s; simp at h; subst h; rfl
  · rfl
/-- a sorted list of keys, what is not nought -/
theorem kept {d : List (Int × Int)} (nd : (d.map (·.1)).Nodup) {ns : List Int} (hp : ns.Perm (d.map (·.1))) :
    (((ns.filter fun x => cf d x ≠ 0).map fun x => (x, cf d x)).map (·.1)).Nodup ∧ (∀ p ∈ (ns.filter fun x => cf d x ≠ 0).map fun x => (x, cf d x), p.2 ≠ 0) ∧ ∀ x, cf ((ns.filter fun x => cf d x ≠ 0).map fun x => (x, cf d x)) x = cf d x := by
  have nns : ns.Nodup := hp.symm.nodup nd
  have e1 : ((ns.filter fun x => cf d x ≠ 0).map fun x => (x, cf d x)).map (·.1) = ns.filter fun x => cf d x ≠ 0 := by
    rw [List.map_map]; exact List.map_id _
  have n1 : (((ns.filter fun x => cf d x ≠ 0).map fun x => (x, cf d x)).map (·.1)).Nodup := by rw [e1]; exact nns.filter _
  refine ⟨n1, ?_, fun x => ?_⟩
  · intro p hp'
    obtain ⟨x, hx, rfl⟩ := List.mem_map.mp hp'
    simpa using (List.mem_filter.mp hx).2
  · by_cases hx : cf d x = 0
    · rw [hx]
      refine cf_not ?_
      rw [e1]
      intro hm
      have := (List.mem_filter.mp hm).2
      simp [hx] at this
    · have hm : x ∈ d.map (·.1) := by
        by_cases q : x ∈ d.map (·.1)
        · exact q
        · exact absurd (cf_not q) hx
      have : getI ((ns.filter fun x => cf d x ≠ 0).map fun x => (x, cf d x)) x = some (cf d x) := by
        rw [getI_mem n1]
        exact List.mem_map.mpr ⟨x, List.mem_filter.mpr ⟨hp.mem_iff.mpr hm, by simpa using hx⟩, rfl⟩
      unfold cf at this ⊢
      rw [this]; rfl

/-! part C3 -/
section
variable {c : Cx} {n : Nat} {σ : List O}
theorem last_at {σ : List O} {x : O} : (σ ++ [x])[σ.length]? = some x := by rw [List.getElem?_append_right (Nat.le_refl _)]; simp
theorem last_set {σ : List O} {x y : O} : (σ ++ [x]).set σ.length y = σ ++ [y] := by rw [List.set_append_right _ _ (Nat.le_refl _)]; simp
theorem asg_pair {sc : Scope} {x y : Str} {p1 p2 p3 : Pos} {k : Nat} {a b : V} {m : Loc} (hx : sc.names.lookup x = some .local ∨ sc.names.lookup x = some .cell) (hy : sc.names.lookup y = some .local ∨ sc.names.lookup y = some .cell) :
    asg1 sc (.Tuple [.Name x p1, .Name y p2] k p3) (.tup [a, b]) m = some (upd (upd m x a) y b) := by
  show (asgN sc (.Name x p1) a m).bind _ = _
  rw [asgN_name, if_pos hx]
  show (asgN sc (.Name y p2) b (upd m x a)).bind _ = _
  rw [asgN_name, if_pos hy]; rfl
theorem asg_name {sc : Scope} {x : Str} {p1 : Pos} {a : V} {m : Loc} (hx : sc.names.lookup x = some .local ∨ sc.names.lookup x = some .cell) :
    asg1 sc (.Name x p1) a m = some (upd m x a) := by
  exact if_pos hx

theorem eqV_int (a b : Int) : eqV (.int a) (.int b) = decide (a = b) := by
  show PyData.eqv (.int a) (.int b) = _
  unfold PyData.eqv
  by_cases h : a = b
  · simp [h]
  · simp [h]
theorem rbs_all {k : Nat} : ∀ {xs : List V}, (∀ x ∈ xs, rb k x = true) → rbs k xs = true
  | [], _ => rfl
  | x :: xs, h => Bool.and_eq_true_iff.mpr ⟨h x List.mem_cons_self, rbs_all fun y hy => h y (List.mem_cons_of_mem _ hy)⟩
theorem rb_pair {k : Nat} (p : Int × Int) : rb k (pairV p) = true := rfl
theorem isD_pair {n : Nat} (p : Int × Int) : isD (n + 1) (pairV p) = true := rfl
theorem isDs_all {n : Nat} : ∀ {xs : List V}, (∀ x ∈ xs, isD n x = true) → isDs n xs = true
  | [], _ => rfl
  | x :: xs, h => Bool.and_eq_true_iff.mpr ⟨h x List.mem_cons_self, isDs_all fun y hy => h y (List.mem_cons_of_mem _ hy)⟩
theorem eqV_tup_nil {xs : List V} : eqV (.tup xs) (.tup []) = xs.isEmpty := by
  cases xs with
  | nil => rfl
  | cons x xs => first | rfl | (show PyData.eqv (.tuple (py x :: pys xs)) (.tuple []) = _; unfold PyData.eqv; simp [PyData.eqvAll])

theorem S_plus (t : Txt c) {one other : Sv} {f : Int} {Φ : V → List O → Prop} (hf : Builtin.Int.intBits f ≤ 64) (nd1 : (one.sm.parts.map (·.1)).Nodup) (nd2 : (other.sm.parts.map (·.1)).Nodup) (hz : one.sm.parts.length + other.sm.parts.length < 60)
    (hbk : Bd (one.sm.k + f * other.sm.k)) (hbc : ∀ x, Bd (cf one.sm.parts x + f * cf other.sm.parts x))
    (h : ∀ s : Sm, PlusR one.sm other.sm f s → s.parts.length < 60 → Φ s.sv.v σ) : WpC c (n + 3) (.ref 153) σ [one.v, other.v, .int f] Φ := by
  refine WpC_drop (WpC_def (D_plus t) rfl ?_)
  unfold bd_plus
  dsimp only
  refine WpS_cons (WpX_swap ["one", "other"] ?_ (by intro env h; cases env; subst h; with_unfolding_all rfl) (by decide +kernel) (by intro env; with_unfolding_all rfl))
  repeat walk_at "e"
  refine WpE_call _ (G_sum_of t) (C_sum_of t) ?_
  repeat walk_at "e"
  refine S_sum_of t ?_
  repeat walk_at "e"
  refine WpE_call _ (G_sum_of t) (C_sum_of t) ?_
  repeat walk_at "e"
  refine S_sum_of t ?_
  repeat walk_at "e"
  refine ⟨_, rfl, rfl, ?_⟩
  refine WpS_cons (WpX_assignT ?_ (by intro env; with_unfolding_all rfl) (by intro env h; cases env; subst h; with_unfolding_all rfl) (by intro env; with_unfolding_all rfl))
  repeat walk_at "e"
  refine WpE_call _ (B_dict t) trivial ?_
  repeat walk_at "e"
  refine ⟨by decide, _, rfl, ?_⟩
  repeat walk_at "e"
  have pv : (one.sm.parts.map pairV) = pairsV (liftI one.sm.parts) := by unfold pairsV liftI; rw [List.map_map]; rfl
  have lk : (liftI one.sm.parts).map (·.1) = one.sm.parts.map (·.1) := by unfold liftI; rw [List.map_map]; rfl
  rw [pv]
  refine WpC_dict (by rw [lk]; exact nd1) (by unfold liftI; rw [List.length_map]; (first | lia | omega)) ?_
  repeat walk_at "e"
  refine WpE_call _ (G_within_figures t) (C_within_figures t) ?_
  repeat walk_at "e"
  refine ⟨by decide, _, rfl, ?_⟩
  repeat walk_at "e"
  refine ⟨by decide, _, rfl, ?_⟩
  refine ⟨.inl hf, ?_⟩
  show WpEs _ _ _ _ _ _ _
  repeat walk_at "e"
  refine S_within t hbk ?_
  repeat walk_at "e"
  refine ⟨_, asg_pair (.inr (by decide +kernel)) (.inl (by decide +kernel)), ?_⟩
  refine WpS_cons (WpX_for ?_)
  repeat walk_at "e"
  refine ⟨by decide, _, rfl, ?_⟩
  refine forGo_inv (fun vs m σ' => ∃ (d done rest : List (Int × Int)), σ' = σ ++ [.idict (liftI d)] ∧ vs = rest.map pairV ∧ done ++ rest = other.sm.parts ∧ (d.map (·.1)).Nodup ∧ (∀ x, cf d x = cf one.sm.parts x + f * cf done x) ∧ d.length ≤ one.sm.parts.length + done.length ∧
    m "parts" = some (.ref σ.length) ∧ m "constant" = some (.int (one.sm.k + f * other.sm.k)) ∧ m "factor" = some (.int f)) ?_ ?_ _ _ _ ⟨one.sm.parts, [], other.sm.parts, rfl, rfl, rfl, nd1, fun x => by simp [cf, getI_nil], by simp, rfl, rfl, rfl⟩
  · rintro m σ' ⟨d, done, rest, rfl, hr, hd, nd, hcf, hl, hp, hc, hfa⟩
    have : rest = [] := by simpa using hr.symm
    subst this
    rw [List.append_nil] at hd
    subst hd
    refine ⟨trivial, ?_⟩
    refine WpS_cons ?_
    walk_at "s"
    refine WpE_call _ (B_tuple t) trivial ?_
    repeat walk_at "e"
    refine WpE_comp1 ⟨rfl, by decide +kernel, by decide +kernel, by decide +kernel⟩ (by decide +kernel) ?_ (by intro _ _; with_unfolding_all rfl)
    refine WpE_call _ (B_sorted t) trivial ?_
    repeat walk_at "e"
    have dl : (liftI d).map (·.1) = d.map (·.1) := by unfold liftI; rw [List.map_map]; rfl
    refine WpC_sortedD last_at (by unfold liftI; rw [List.length_map]; (first | lia | omega)) fun ns hp1 hp2 => ?_
    rw [dl] at hp1
    refine ⟨rfl, ?_⟩
    have hnl : ns.length = d.length := by have := hp1.length_eq; simpa using this
    refine lvGo_map (fun v => match v with | .int x => decide (cf d x ≠ 0) | _ => false) (fun v => match v with | .int x => .tup [.int x, .int (cf d x)] | _ => .none) (fun m' => m' "parts" = some (.ref σ.length)) _ _ _ ?_ (by simp; (first | lia | omega)) ?_ ?_
    · show compLoc _ m "parts" = _
      exact hp
    · intro v hv m' acc hm'
      obtain ⟨x, hx, rfl⟩ := List.mem_map.mp hv
      have hxd := hp1.mem_iff.mp hx
      have hget : getK (liftI d) x = some (.int (cf d x)) := by
        rw [getI_lift]
        have := getI_some_iff.mpr hxd
        unfold cf
        cases q : getI d x with
        | none => rw [q] at this; cases this
        | some w => rfl
      have hat : (σ ++ [O.idict (liftI d)] ++ [O.list acc])[σ.length]? = some (.idict (liftI d)) := by
        rw [List.getElem?_append_left (by simp)]; exact last_at
      refine ⟨_, asg_name (.inl (by decide +kernel)), hm', ?_, ?_⟩
      · show WpT _ _ _ _ _ _ _
        repeat walk_at "e"
        refine subOk_i hat hget ?_
        repeat walk_at "e"
        refine ⟨by rfl, by rfl, rfl, ?_⟩
        rw [eqV_int]
        simp
      · intro _
        repeat walk_at "e"
        refine subOk_i hat hget ?_
        repeat walk_at "e"
        exact ⟨rfl, rfl⟩
    · intro m'
      have hps : ([] : List V) ++ ((ns.map V.int).filter fun v => match v with | .int x => decide (cf d x ≠ 0) | _ => false).map (fun v => match v with | .int x => .tup [.int x, .int (cf d x)] | _ => .none) = ((ns.filter fun x => cf d x ≠ 0).map fun x => (x, cf d x)).map pairV := by
        rw [List.nil_append, List.filter_map, List.map_map, List.map_map]
        rfl
      rw [hps]
      obtain ⟨k1, k2, k3⟩ := kept nd hp1
      have klen : ((ns.filter fun x => cf d x ≠ 0).map fun x => (x, cf d x)).length ≤ ns.length := by rw [List.length_map]; exact List.length_filter_le _ _
      generalize ((ns.filter fun x => cf d x ≠ 0).map fun x => (x, cf d x)) = ps at k1 k2 k3 klen ⊢
      refine ⟨rbs_all fun x hx => by obtain ⟨p, _, rfl⟩ := List.mem_map.mp hx; exact rb_pair p, ?_⟩
      refine WpEs_nil ?_
      refine WpC_tuple (by rw [List.length_map]; unfold sizeLine; (first | lia | omega)) ?_
      refine WpS_cons (WpX_return ?_)
      repeat walk_at "e"
      have hd9 : isD 8 (.tup (ps.map pairV)) = true := by
        show isDs 7 _ = true
        exact isDs_all fun x hx => by obtain ⟨p, _, rfl⟩ := List.mem_map.mp hx; exact isD_pair p
      refine ⟨hd9, by rfl, ?_⟩
      rw [eqV_tup_nil]
      have P : PlusR one.sm other.sm f ⟨ps, one.sm.k + f * other.sm.k⟩ := ⟨k1, k2, rfl, fun x => by show cf ps x = _; rw [k3, hcf]⟩
      have hΦ := h _ P (by show ps.length < 60; (first | lia | omega))
      cases hps0 : ps with
      | nil =>
        subst hps0
        refine ifF rfl ?_
        repeat walk_at "e"
        exact ⟨σ, _, rfl, Within.refl σ, rfl, hΦ⟩
      | cons p ps' =>
        rw [← hps0]
        have hne : (ps.map pairV).isEmpty = false := by rw [hps0]; rfl
        rw [hne]
        refine ifT rfl ?_
        repeat walk_at "e"
        refine ⟨σ, _, rfl, Within.refl σ, ?_, ?_⟩
        · have : rbs σ.length (ps.map pairV) = true := rbs_all fun x hx => by obtain ⟨p, _, rfl⟩ := List.mem_map.mp hx; exact rb_pair p
          show (true && (rbs σ.length (ps.map pairV) && (true && true))) = true
          rw [this]; rfl
        · have e : (Sm.sv ⟨ps, one.sm.k + f * other.sm.k⟩) = .sum ⟨ps, one.sm.k + f * other.sm.k⟩ := if_neg (by rw [hps0]; simp)
          rw [e] at hΦ
          exact hΦ
  · rintro v vs m σ' ⟨d, done, rest, rfl, hr, hd, nd, hcf, hl, hp, hc, hfa⟩
    obtain ⟨⟨x, a⟩, rest, rfl⟩ : ∃ y ys', rest = y :: ys' := by cases rest with
      | nil => simp at hr
      | cons y ys' => exact ⟨y, ys', rfl⟩
    simp only [List.map_cons, List.cons.injEq] at hr
    obtain ⟨rfl, rfl⟩ := hr
    refine ⟨trivial, _, asg_pair (.inl (by decide +kernel)) (.inl (by decide +kernel)), ?_⟩
    refine WpS_cons (WpX_setitem ?_)
    refine WpE_call _ (G_within_figures t) (C_within_figures t) ?_
    repeat walk_at "e"
    refine WpE_mB F.plainAttrs_dict F.slot_dict_get F.type_dict_get (by intro _; with_unfolding_all rfl) (by intro _ _; with_unfolding_all rfl) ?_
    repeat walk_at "e"
    refine ⟨_, _, rfl, last_at, rfl, ?_⟩
    repeat walk_at "e"
    refine WpC_get last_at ?_
    repeat walk_at "e"
    have hx : x ∉ done.map (·.1) := by
      intro hm
      rw [← hd, List.map_append] at nd2
      exact (List.nodup_append.mp nd2).2.2 x hm x (by simp) rfl
    have hget : (getK (liftI d) x).getD (.int 0) = .int (cf d x) := by
      rw [getI_lift]; unfold cf; cases getI d x <;> rfl
    have hval : cf d x + f * a = cf one.sm.parts x + f * cf other.sm.parts x := by
      rw [hcf, cf_not hx]
      have : cf other.sm.parts x = a := by
        have : getI other.sm.parts x = some a := (getI_mem nd2).mpr (by rw [← hd]; simp)
        unfold cf; rw [this]; rfl
      rw [this]; (first | lia | omega)
    refine ⟨.inl hf, ?_⟩
    show BinOk Operator.Add ((getK (liftI d) x).getD (.int 0)) (.int (f * a)) _
    rw [hget]
    show WpEs _ _ _ _ _ _ _
    repeat walk_at "e"
    refine S_within t (by rw [hval]; exact hbc x) ?_
    repeat walk_at "e"
    refine setOk_i last_at (by unfold liftI; rw [List.length_map]; have := congrArg List.length hd; simp at this; (first | lia | omega)) ?_
    rw [last_set, putI_lift]
    refine WpS_nil ?_
    refine ⟨putI d x (cf d x + f * a), done ++ [(x, a)], rest, rfl, rfl, by simpa using hd, putI_nodup nd, fun y => ?_, ?_, hp, hc, hfa⟩
    · have hdj : ∀ z ∈ done.map (·.1), z ∉ [(x, a)].map (·.1) := fun z hz q => by
        rw [show z = x by simpa using q] at hz; exact hx hz
      rw [cf_append hdj]
      unfold cf
      rw [getI_put]
      by_cases hy : x = y
      · subst hy
        have e1 : (getI [(x, a)] x).getD 0 = a := by rw [getI_cons, if_pos rfl]; rfl
        have e2 : (getI done x).getD 0 = 0 := cf_not hx
        have e3 := hcf x
        unfold cf at e3
        rw [if_pos rfl, e1, e2]
        rw [e2] at e3
        show (getI d x).getD 0 + f * a = _
        rw [e3]
        have : (0 : Int) + a = a := by (first | lia | omega)
        rw [this]; (first | lia | omega)
      · have e1 : (getI [(x, a)] y).getD 0 = 0 := by rw [getI_cons, if_neg hy]; rfl
        rw [if_neg hy, e1]
        have := hcf y
        unfold cf at this
        rw [this]; congr 2; (first | lia | omega)
    · have := putI_len d x (cf d x + f * a)
      rw [List.length_append]
      simp only [List.length_cons, List.length_nil]
      (first | lia | omega)
end

/-! part C4 -/
/-! the state: the flat model, the gatherer -/
noncomputable def Gd : O := .sdict [("flat", .inst 80 2), ("made", .ref 5)]
noncomputable def Fd : O := .sdict [("vars", .ref 3), ("tolds", .ref 4), ("goal", .tup [.str "satisfy", .none]), ("shown", .tup [])]
noncomputable abbrev St (fd : O) (vs ts : List V) (md : List (TK × V)) (rest : List O) : List O := fd :: Gd :: Fd :: .list vs :: .list ts :: .tdict md :: rest
section
variable {c : Cx} {n : Nat} {fd : O} {vs ts : List V} {md : List (TK × V)} {rest : List O}

theorem S_size (t : Txt c) {Φ : V → List O → Prop} (hz : vs.length < 1000) (h : Φ (.int vs.length) (St fd vs ts md rest)) : WpC c (n + 1) (.ref 70) (St fd vs ts md rest) [.inst 80 2] Φ := by
  refine WpC_def (D_size t) rfl ?_
  unfold bd_size
  dsimp only
  refine WpS_cons (WpX_return ?_)
  refine WpE_call _ (B_len t) trivial ?_
  repeat walk_at "e"
  refine WpE_attr (A_vars t) ?_ (by intro _; with_unfolding_all rfl)
  repeat walk_at "e"
  refine ⟨2, _, .ref 3, rfl, rfl, rfl, ?_⟩
  repeat walk_at "e"
  refine WpC_len (k := vs.length) rfl (by (first | lia | omega)) ?_
  exact h
theorem S_post (t : Txt c) {v : V} {Φ : V → List O → Prop} (hz : ts.length < 1000) (h : Φ .none (St fd vs (ts ++ [v]) md rest)) : WpC c (n + 1) (.ref 63) (St fd vs ts md rest) [.inst 80 2, v] Φ := by
  refine WpC_def (D_post t) rfl ?_
  unfold bd_post
  dsimp only
  refine WpS_cons (WpX_expr ?_ (by intro env h; simp only [interactive, h]; decide +kernel) (by intro _; with_unfolding_all rfl))
  refine WpE_mB F.plainAttrs_list F.slot_list_append F.type_list_append (by intro _; with_unfolding_all rfl) (by intro _ _; with_unfolding_all rfl) ?_
  refine WpE_attr (A_tolds t) ?_ (by intro _; with_unfolding_all rfl)
  repeat walk_at "e"
  refine ⟨2, _, .ref 4, rfl, rfl, rfl, ?_⟩
  refine ⟨4, _, rfl, rfl, rfl, ?_⟩
  repeat walk_at "e"
  refine WpC_append rfl (by (first | lia | omega)) ?_
  refine ⟨trivial, WpS_nil ?_⟩
  exact h
theorem S_domain_of (t : Txt c) {x : Int} {nm dom : V} {Φ : V → List O → Prop} (h0 : 0 ≤ x) (h1 : x < 2 ^ 62) (hx : vs[x.toNat]? = some (.tup [nm, dom])) (h : Φ dom (St fd vs ts md rest)) : WpC c (n + 1) (.ref 77) (St fd vs ts md rest) [.inst 80 2, .int x] Φ := by
  refine WpC_def (D_domain_of t) rfl ?_
  unfold bd_domain_of
  dsimp only
  refine WpS_cons (WpX_return ?_)
  repeat walk_at "e"
  refine WpE_attr (A_vars t) ?_ (by intro _; with_unfolding_all rfl)
  repeat walk_at "e"
  refine ⟨2, _, .ref 3, rfl, rfl, rfl, ?_⟩
  repeat walk_at "e"
  refine subOk_l (xs := vs) rfl ⟨h0, by (first | lia | omega)⟩ (v := .tup [nm, dom]) (by unfold pyIdx; rw [if_pos h0]; exact hx) ?_
  repeat walk_at "e"
  refine ⟨by decide, _, rfl, ?_⟩
  exact h
theorem S_new_var (t : Txt c) {nm dom : V} {Φ : V → List O → Prop} (hz : vs.length < 1000) (h : Φ (.int vs.length) (St fd (vs ++ [.tup [nm, dom]]) ts md rest)) : WpC c (n + 1) (.ref 56) (St fd vs ts md rest) [.inst 80 2, nm, dom] Φ := by
  refine WpC_def (D_new_var t) rfl ?_
  unfold bd_new_var
  dsimp only
  refine WpS_cons (WpX_expr ?_ (by intro env h; simp only [interactive, h]; decide +kernel) (by intro _; with_unfolding_all rfl))
  refine WpE_mB F.plainAttrs_list F.slot_list_append F.type_list_append (by intro _; with_unfolding_all rfl) (by intro _ _; with_unfolding_all rfl) ?_
  refine WpE_attr (A_vars t) ?_ (by intro _; with_unfolding_all rfl)
  repeat walk_at "e"
  refine ⟨2, _, .ref 3, rfl, rfl, rfl, ?_⟩
  refine ⟨3, _, rfl, rfl, rfl, ?_⟩
  repeat walk_at "e"
  refine WpC_append rfl (by (first | lia | omega)) ?_
  refine ⟨trivial, ?_⟩
  refine WpS_cons (WpX_return ?_)
  repeat walk_at "e"
  refine WpE_call _ (B_len t) trivial ?_
  repeat walk_at "e"
  refine WpE_attr (A_vars t) ?_ (by intro _; with_unfolding_all rfl)
  repeat walk_at "e"
  refine ⟨2, _, .ref 3, rfl, rfl, rfl, ?_⟩
  repeat walk_at "e"
  refine WpC_len (k := (vs ++ [V.tup [nm, dom]]).length) rfl (by simp; (first | lia | omega)) ?_
  repeat walk_at "e"
  have : ((vs ++ [V.tup [nm, dom]]).length : Int) - 1 = vs.length := by simp
  show Φ (.int (((vs ++ [V.tup [nm, dom]]).length : Int) - 1)) _
  rw [this]
  exact h
end

/-! part C5 -/
/-! the gatherer -/
noncomputable def toldV (k : TK) : V := .tup [.str k.1, .tup (k.2.1.map V.int), .tup (k.2.2.1.map V.int), .int k.2.2.2]
noncomputable def TRv : V := domV [(0, 1)]
structure Base where
  d0 : List (Int × Int)
  d1 : List (Int × Int)
  d2 : List (Int × Int)
structure Base.Ok (b : Base) : Prop where
  n0 : b.d0 ≠ []
  n1 : b.d1 ≠ []
  n2 : b.d2 ≠ []
  s0 : ∀ p ∈ b.d0, -100 ≤ p.1 ∧ p.1 ≤ 100 ∧ -100 ≤ p.2 ∧ p.2 ≤ 100
  s1 : ∀ p ∈ b.d1, -100 ≤ p.1 ∧ p.1 ≤ 100 ∧ -100 ≤ p.2 ∧ p.2 ≤ 100
  s2 : ∀ p ∈ b.d2, -100 ≤ p.1 ∧ p.1 ≤ 100 ∧ -100 ≤ p.2 ∧ p.2 ≤ 100
noncomputable def Base.dom (b : Base) (x : Nat) : List (Int × Int) := match x with
  | 0 => b.d0
  | 1 => b.d1
  | 2 => b.d2
  | _ => [(0, 1)]
noncomputable def nmV (x : Nat) : V := match x with
  | 0 => .str "x"
  | 1 => .str "y"
  | 2 => .str "b"
  | x + 3 => .str (fstr "#" ((x + 3 : Nat) : Int))
noncomputable def varV (b : Base) (x : Nat) : V := .tup [nmV x, domV (b.dom x)]
noncomputable def varsV (b : Base) (k : Nat) : List V := (List.range k).map (varV b)
noncomputable def reifV (p : TK × Nat) : V := .tup [.str "reif", .int ((p.2 : Nat) : Int), toldV p.1]
noncomputable def toldsV (ts : List TK) : List V := (ts.zipIdx 3).map reifV
noncomputable def madeV (ts : List TK) : List (TK × V) := (ts.zipIdx 3).map fun p => (p.1, V.int ((p.2 : Nat) : Int))
noncomputable abbrev Gs (fd : O) (b : Base) (ts : List TK) (rest : List O) : List O := St fd (varsV b (3 + ts.length)) (toldsV ts) (madeV ts) rest

theorem varsV_len (b : Base) (k : Nat) : (varsV b k).length = k := by simp [varsV]
theorem varsV_at (b : Base) {k x : Nat} (h : x < k) : (varsV b k)[x]? = some (varV b x) := by
  unfold varsV; rw [List.getElem?_map, List.getElem?_range h]; rfl
theorem varsV_succ (b : Base) (k : Nat) : varsV b (k + 1) = varsV b k ++ [varV b k] := by unfold varsV; rw [List.range_succ, List.map_append]; rfl

noncomputable def lo (d : List (Int × Int)) : Int := (d.head?.getD (0, 0)).1
noncomputable def hi (d : List (Int × Int)) : Int := (d.getLast?.getD (0, 0)).2
section
variable {c : Cx} {n : Nat} {fd : O} {b : Base} {ts : List TK} {rest : List O} {σ : List O}
theorem S_lo (t : Txt c) {d : List (Int × Int)} (hd : d ≠ []) {Φ : V → List O → Prop} (h : Φ (.int (lo d)) σ) : WpC c (n + 1) (.ref 28) σ [domV d] Φ := by
  cases d with
  | nil => exact absurd rfl hd
  | cons p d => exact S_least t h
theorem S_hi (t : Txt c) {d : List (Int × Int)} (hd : d ≠ []) {Φ : V → List O → Prop} (h : Φ (.int (hi d)) σ) : WpC c (n + 1) (.ref 35) σ [domV d] Φ := by
  obtain ⟨d', p, rfl⟩ : ∃ d' p, d = d' ++ [p] := ⟨d.dropLast, d.getLast hd, (List.dropLast_concat_getLast hd).symm⟩
  unfold hi at h
  rw [List.getLast?_append] at h
  exact S_greatest t h
theorem Base.Ok.ne (o : b.Ok) (x : Nat) : b.dom x ≠ [] := by
  unfold Base.dom; split
  · exact o.n0
  · exact o.n1
  · exact o.n2
  · simp
theorem Base.Ok.sm (o : b.Ok) (x : Nat) : ∀ p ∈ b.dom x, -100 ≤ p.1 ∧ p.1 ≤ 100 ∧ -100 ≤ p.2 ∧ p.2 ≤ 100 := by
  unfold Base.dom; split
  · exact o.s0
  · exact o.s1
  · exact o.s2
  · intro p hp; simp at hp; subst hp; decide
theorem lo_mem {d : List (Int × Int)} (hd : d ≠ []) : ∃ p ∈ d, lo d = p.1 := by
  cases d with
  | nil => exact absurd rfl hd
  | cons p d => exact ⟨p, List.mem_cons_self, rfl⟩
theorem hi_mem {d : List (Int × Int)} (hd : d ≠ []) : ∃ p ∈ d, hi d = p.2 := by
  obtain ⟨d', p, rfl⟩ : ∃ d' p, d = d' ++ [p] := ⟨d.dropLast, d.getLast hd, (List.dropLast_concat_getLast hd).symm⟩
  exact ⟨p, by simp, by unfold hi; rw [List.getLast?_append]; rfl⟩
theorem bits_small {i : Int} (h : -100 ≤ i ∧ i ≤ 100) : Builtin.Int.intBits i ≤ 64 := intBits_le_64 (by (first | lia | omega)) (by (first | lia | omega))

/-- the bounds of a sum -/
noncomputable def mnOf (b : Base) (p : Int × Int) : Int := if p.2 * hi (b.dom p.1.toNat) < p.2 * lo (b.dom p.1.toNat) then p.2 * hi (b.dom p.1.toNat) else p.2 * lo (b.dom p.1.toNat)
noncomputable def mxOf (b : Base) (p : Int × Int) : Int := if p.2 * lo (b.dom p.1.toNat) < p.2 * hi (b.dom p.1.toNat) then p.2 * hi (b.dom p.1.toNat) else p.2 * lo (b.dom p.1.toNat)
noncomputable def lowOf (b : Base) (s : Sm) : Int := s.k + (s.parts.map (mnOf b)).sum
noncomputable def highOf (b : Base) (s : Sm) : Int := s.k + (s.parts.map (mxOf b)).sum

theorem S_bounds (t : Txt c) (o : b.Ok) {v : Sv} {Φ : V → List O → Prop} (hx : ∀ p ∈ v.sm.parts, 0 ≤ p.1 ∧ p.1 < 3 + (ts.length : Int)) (hz : ts.length < 500) (h : Φ (.tup [.int (lowOf b v.sm), .int (highOf b v.sm)]) (Gs fd b ts rest)) :
    WpC c (n + 3) (.ref 195) (Gs fd b ts rest) [.inst 269 1, v.v] Φ := by
  refine WpC_def (D_bounds t) rfl ?_
  unfold bd_bounds
  dsimp only
  refine WpS_cons ?_
  walk_at "s"
  refine WpE_call _ (G_sum_of t) (C_sum_of t) ?_
  repeat walk_at "e"
  refine S_sum_of t ?_
  refine WpS_cons (WpX_swap ["low", "high"] ?_ (by intro env h; cases env; subst h; with_unfolding_all rfl) (by decide +kernel) (by intro env; with_unfolding_all rfl))
  repeat walk_at "e"
  refine ⟨by decide, _, rfl, ?_⟩
  repeat walk_at "e"
  refine ⟨by decide, _, rfl, ?_⟩
  repeat walk_at "e"
  refine ⟨_, rfl, rfl, ?_⟩
  refine WpS_cons (WpX_for ?_)
  repeat walk_at "e"
  refine ⟨by decide, _, rfl, ?_⟩
  refine forGo_inv (fun vs m σ' => ∃ (done rest' : List (Int × Int)), σ' = Gs fd b ts rest ∧ vs = rest'.map pairV ∧ done ++ rest' = v.sm.parts ∧
    m "self" = some (.inst 269 1) ∧ m "low" = some (.int (v.sm.k + (done.map (mnOf b)).sum)) ∧ m "high" = some (.int (v.sm.k + (done.map (mxOf b)).sum))) ?_ ?_ _ _ _ ⟨[], v.sm.parts, rfl, rfl, rfl, rfl, by simp; rfl, by simp; rfl⟩
  · rintro m σ' ⟨done, rest', rfl, hr, hd, hs, hl, hh⟩
    have : rest' = [] := by simpa using hr.symm
    subst this
    rw [List.append_nil] at hd
    subst hd
    refine ⟨trivial, ?_⟩
    refine WpS_cons (WpX_return ?_)
    repeat walk_at "e"
    exact h
  · rintro w vs m σ' ⟨done, rest', rfl, hr, hd, hs, hl, hh⟩
    obtain ⟨⟨x, a⟩, rest', rfl⟩ : ∃ y ys', rest' = y :: ys' := by cases rest' with
      | nil => simp at hr
      | cons y ys' => exact ⟨y, ys', rfl⟩
    simp only [List.map_cons, List.cons.injEq] at hr
    obtain ⟨rfl, rfl⟩ := hr
    have hxa := hx (x, a) (by rw [← hd]; simp)
    simp only at hxa
    have hat : (varsV b (3 + ts.length))[x.toNat]? = some (.tup [nmV x.toNat, domV (b.dom x.toNat)]) := varsV_at b (by (first | lia | omega))
    refine ⟨trivial, _, asg_pair (.inl (by decide +kernel)) (.inl (by decide +kernel)), ?_⟩
    refine WpS_cons ?_
    walk_at "s"
    repeat walk_at "e"
    refine WpE_call _ (G_least t) (C_least t) ?_
    repeat walk_at "e"
    refine WpE_m (M_domain_of t) (by intro _; with_unfolding_all rfl) (by intro _ _; with_unfolding_all rfl) ?_
    refine WpE_attr (A_flat t) ?_ (by intro _; with_unfolding_all rfl)
    repeat walk_at "e"
    refine ⟨1, _, .inst 80 2, rfl, rfl, rfl, ?_⟩
    refine ⟨2, _, rfl, rfl, rfl, ?_⟩
    repeat walk_at "e"
    refine S_domain_of t hxa.1 (by (first | lia | omega)) hat ?_
    repeat walk_at "e"
    refine S_lo t (o.ne _) ?_
    have hlb := o.sm x.toNat
    have hlo : -100 ≤ lo (b.dom x.toNat) ∧ lo (b.dom x.toNat) ≤ 100 := by
      obtain ⟨p, h1, h2⟩ := lo_mem (o.ne x.toNat); rw [h2]; exact ⟨(hlb p h1).1, (hlb p h1).2.1⟩
    have hhi : -100 ≤ hi (b.dom x.toNat) ∧ hi (b.dom x.toNat) ≤ 100 := by
      obtain ⟨p, h1, h2⟩ := hi_mem (o.ne x.toNat); rw [h2]; exact ⟨(hlb p h1).2.2.1, (hlb p h1).2.2.2⟩
    refine ⟨.inr (bits_small hlo), ?_⟩
    show WpEs _ _ _ _ _ _ _
    repeat walk_at "e"
    refine WpE_call _ (G_greatest t) (C_greatest t) ?_
    repeat walk_at "e"
    refine WpE_m (M_domain_of t) (by intro _; with_unfolding_all rfl) (by intro _ _; with_unfolding_all rfl) ?_
    refine WpE_attr (A_flat t) ?_ (by intro _; with_unfolding_all rfl)
    repeat walk_at "e"
    refine ⟨1, _, .inst 80 2, rfl, rfl, rfl, ?_⟩
    refine ⟨2, _, rfl, rfl, rfl, ?_⟩
    repeat walk_at "e"
    refine S_domain_of t hxa.1 (by (first | lia | omega)) hat ?_
    repeat walk_at "e"
    refine S_hi t (o.ne _) ?_
    refine ⟨.inr (bits_small hhi), ?_⟩
    show WpEs _ _ _ _ _ _ _
    repeat walk_at "e"
    refine WpS_cons (WpX_swap ["low", "high"] ?_ (by intro env h; cases env; subst h; with_unfolding_all rfl) (by decide +kernel) (by intro env; with_unfolding_all rfl))
    repeat walk_at "e"
    refine WpE_call _ (B_min t) trivial ?_
    repeat walk_at "e"
    refine WpC_minT (xs := [a * lo (b.dom x.toNat), a * hi (b.dom x.toNat)]) (by simp) fun r hr1 hr2 => ?_
    have er : r = mnOf b (x, a) := by
      have h1 := hr2 _ (List.mem_cons_self)
      have h2 := hr2 (a * hi (b.dom x.toNat)) (by simp)
      show r = if a * hi (b.dom x.toNat) < a * lo (b.dom x.toNat) then a * hi (b.dom x.toNat) else a * lo (b.dom x.toNat)
      simp only [List.mem_cons, List.not_mem_nil, or_false] at hr1
      generalize a * hi (b.dom x.toNat) = q at *
      generalize a * lo (b.dom x.toNat) = p at *
      split <;> rcases hr1 with e | e <;> (first | lia | omega)
    subst er
    show WpEs _ _ _ _ _ _ _
    repeat walk_at "e"
    refine WpE_call _ (B_max t) trivial ?_
    repeat walk_at "e"
    refine WpC_maxT (xs := [a * lo (b.dom x.toNat), a * hi (b.dom x.toNat)]) (by simp) fun r hr1 hr2 => ?_
    have er : r = mxOf b (x, a) := by
      have h1 := hr2 _ (List.mem_cons_self)
      have h2 := hr2 (a * hi (b.dom x.toNat)) (by simp)
      show r = if a * lo (b.dom x.toNat) < a * hi (b.dom x.toNat) then a * hi (b.dom x.toNat) else a * lo (b.dom x.toNat)
      simp only [List.mem_cons, List.not_mem_nil, or_false] at hr1
      generalize a * hi (b.dom x.toNat) = q at *
      generalize a * lo (b.dom x.toNat) = p at *
      split <;> rcases hr1 with e | e <;> (first | lia | omega)
    subst er
    show WpEs _ _ _ _ _ _ _
    repeat walk_at "e"
    refine ⟨_, rfl, rfl, ?_⟩
    refine WpS_nil ?_
    refine ⟨done ++ [(x, a)], rest', rfl, rfl, by simpa using hd, hs, ?_, ?_⟩
    · show some (V.int (v.sm.k + (done.map (mnOf b)).sum + mnOf b (x, a))) = _
      rw [List.map_append, List.sum_append]
      simp only [List.map_cons, List.map_nil, List.sum_cons, List.sum_nil]
      congr 2; (first | lia | omega)
    · show some (V.int (v.sm.k + (done.map (mxOf b)).sum + mxOf b (x, a))) = _
      rw [List.map_append, List.sum_append]
      simp only [List.map_cons, List.map_nil, List.sum_cons, List.sum_nil]
      congr 2; (first | lia | omega)
end

/-! part C6 -/
theorem filt_true (l : List V) : (l.filter fun _ => true) = l := List.filter_eq_self.mpr fun _ _ => rfl
/-! a row -/
inductive Rk where
  | le | eq | ne
  deriving DecidableEq
noncomputable def Rk.s : Rk → Str
  | .le => "linear_le"
  | .eq => "linear_eq"
  | .ne => "linear_ne"
noncomputable def tolds (k : Rk) (s : Sm) : TK := (k.s, (s.parts.map fun p => p.2.fdiv (gcds (s.parts.map (·.2)))), s.parts.map (·.1), (-s.k).fdiv (gcds (s.parts.map (·.2))))
noncomputable def rowF (b : Base) (k : Rk) (s : Sm) : Sum Bool TK :=
  if k = .le then (if highOf b s ≤ 0 ∨ 0 < lowOf b s then .inl (decide (highOf b s ≤ 0)) else .inr (tolds k s))
  else if 0 < lowOf b s ∨ highOf b s < 0 then .inl (decide (k = .ne)) else if lowOf b s = highOf b s then .inl (decide (k = .eq))
  else if (-s.k).fmod (gcds (s.parts.map (·.2))) ≠ 0 then .inl (decide (k = .ne)) else .inr (tolds k s)
noncomputable def rowV : Sum Bool TK → V
  | .inl b => .bool b
  | .inr t => toldV t

theorem gcds_dvd (xs : List Int) : ∀ (g : Nat), (xs.foldl (fun g a => Nat.gcd a.natAbs g) g ∣ g) ∧ ∀ x ∈ xs, xs.foldl (fun g a => Nat.gcd a.natAbs g) g ∣ x.natAbs := by
  induction xs with
  | nil => intro g; exact ⟨Nat.dvd_refl _, fun _ h => nomatch h⟩
  | cons x xs ih =>
    intro g
    obtain ⟨h1, h2⟩ := ih (Nat.gcd x.natAbs g)
    refine ⟨Nat.dvd_trans h1 (Nat.gcd_dvd_right _ _), fun y hy => ?_⟩
    rcases List.mem_cons.mp hy with rfl | hy
    · exact Nat.dvd_trans h1 (Nat.gcd_dvd_left _ _)
    · exact h2 y hy
theorem gcds_pos {ps : List (Int × Int)} (hp : ps ≠ []) (hnz : ∀ p ∈ ps, p.2 ≠ 0) (hB : ∀ p ∈ ps, Bd p.2) : 0 < gcds (ps.map (·.2)) ∧ (gcds (ps.map (·.2))).natAbs.log2 < 9000 := by
  cases ps with
  | nil => exact absurd rfl hp
  | cons p ps =>
    have hd := (gcds_dvd ((p :: ps).map (·.2)) 0).2 p.2 (by simp)
    have hn := hnz p List.mem_cons_self
    have hb := hB p List.mem_cons_self
    unfold gcds
    generalize (((p :: ps).map (·.2)).foldl (fun g a => Nat.gcd a.natAbs g) 0) = g at hd
    have h0 : 0 < p.2.natAbs := by (first | lia | omega)
    have hg0 : 0 < g := Nat.pos_of_dvd_of_pos hd h0
    have hle := Nat.le_of_dvd h0 hd
    refine ⟨by (first | lia | omega), ?_⟩
    show ((g : Int).natAbs).log2 < 9000
    rw [Int.natAbs_natCast]
    have h1 : g < 2 ^ 9000 := by
      have h2 : p.2.natAbs < 10 ^ 60 := by obtain ⟨a, b⟩ := hb; (first | lia | omega)
      have h3 : (10 : Nat) ^ 60 ≤ 2 ^ 9000 := by decide +kernel
      (first | lia | omega)
    exact (Nat.log2_lt (by (first | lia | omega))).mpr h1
theorem s_le_le : eqV (.str (Rk.s .le)) (.str "linear_le") = true := by decide +kernel
theorem s_eq_le : eqV (.str (Rk.s .eq)) (.str "linear_le") = false := by decide +kernel
theorem s_ne_le : eqV (.str (Rk.s .ne)) (.str "linear_le") = false := by decide +kernel
theorem s_eq_eq : eqV (.str (Rk.s .eq)) (.str "linear_eq") = true := by decide +kernel
theorem s_ne_eq : eqV (.str (Rk.s .ne)) (.str "linear_eq") = false := by decide +kernel
theorem s_le_eq : eqV (.str (Rk.s .le)) (.str "linear_eq") = false := by decide +kernel
theorem s_eq_ne : eqV (.str (Rk.s .eq)) (.str "linear_ne") = false := by decide +kernel
theorem s_ne_ne : eqV (.str (Rk.s .ne)) (.str "linear_ne") = true := by decide +kernel
theorem s_le_ne : eqV (.str (Rk.s .le)) (.str "linear_ne") = false := by decide +kernel
theorem sk_le (k : Rk) : eqV (.str k.s) (.str "linear_le") = decide (k = .le) := by cases k <;> decide +kernel
theorem sk_eq (k : Rk) : eqV (.str k.s) (.str "linear_eq") = decide (k = .eq) := by cases k <;> decide +kernel
theorem sk_ne (k : Rk) : eqV (.str k.s) (.str "linear_ne") = decide (k = .ne) := by cases k <;> decide +kernel
theorem sk_ok (k : Rk) : PyData.strOk k.s = true := by cases k <;> decide +kernel
theorem s_le_ok : PyData.strOk (Rk.s .le) = true := by decide +kernel
theorem s_eq_ok : PyData.strOk (Rk.s .eq) = true := by decide +kernel
theorem s_ne_ok : PyData.strOk (Rk.s .ne) = true := by decide +kernel

section
variable {c : Cx} {n : Nat} {fd : O} {b : Base} {ts : List TK} {rest : List O} {σ : List O}
noncomputable abbrev splitS (m : Loc) (σ : List O) (P : Prop) (Φ : Fl → Loc → List O → Prop) : Fl → Loc → List O → Prop := fun fl m' σ' => match fl with
  | .next => m' = m ∧ σ' = σ ∧ P
  | fl => Φ fl m' σ'
theorem WpS_split {sc : Scope} {m : Loc} {st : Stmt} {ss : List Stmt} {Φ : Fl → Loc → List O → Prop} (P : Prop) (h1 : WpX c n sc m σ st (splitS m σ P Φ)) (h2 : P → WpS c n sc m σ ss Φ) : WpS c n sc m σ (st :: ss) Φ :=
  WpS_cons (WpQ.mono h1 fun fl m' σ' h => by
    cases fl with
    | next => obtain ⟨rfl, rfl, hp⟩ := h; exact h2 hp
    | brk => exact h
    | cont => exact h
    | ret v => exact h)
theorem S_row (t : Txt c) (o : b.Ok) {k : Rk} {v : Sv} {Φ : V → List O → Prop} (hx : ∀ p ∈ v.sm.parts, 0 ≤ p.1 ∧ p.1 < 3 + (ts.length : Int)) (hz : ts.length < 500) (hpl : v.sm.parts.length < 1000) (hnz : ∀ p ∈ v.sm.parts, p.2 ≠ 0) (hB : ∀ p ∈ v.sm.parts, Bd p.2)
    (h : Φ (rowV (rowF b k v.sm)) (Gs fd b ts rest)) :
    WpC c (n + 4) (.ref 221) (Gs fd b ts rest) [.inst 269 1, .str k.s, v.v] Φ := by
  refine WpC_def (D_row t) rfl ?_
  unfold bd_row
  dsimp only
  refine WpS_cons (WpX_assignT ?_ (by intro env; with_unfolding_all rfl) (by intro env h; cases env; subst h; with_unfolding_all rfl) (by intro env; with_unfolding_all rfl))
  repeat walk_at "e"
  refine WpE_m (M_bounds t) (by intro _; with_unfolding_all rfl) (by intro _ _; with_unfolding_all rfl) ?_
  repeat walk_at "e"
  refine ⟨1, _, rfl, rfl, rfl, ?_⟩
  repeat walk_at "e"
  refine S_bounds t o hx hz ?_
  repeat walk_at "e"
  refine WpE_call _ (G_sum_of t) (C_sum_of t) ?_
  repeat walk_at "e"
  refine WpC.room (k := 2) (S_sum_of t ?_) (by (first | lia | omega))
  repeat walk_at "e"
  refine ⟨_, rfl, ?_⟩
  refine WpS_split (lowOf b v.sm ≠ highOf b v.sm ∧ rowF b k v.sm = if k ≠ .le ∧ (-v.sm.k).fmod (gcds (v.sm.parts.map (·.2))) ≠ 0 then .inl (decide (k = .ne)) else .inr (tolds k v.sm)) (WpX_if ?_) fun hP => ?_
  · repeat walk_at "e"
    refine ⟨sk_ok k, s_le_ok, ?_⟩
    by_cases hk : k = .le
    · refine ifT (by rw [sk_le]; exact decide_eq_true hk) ?_
      have early : ∀ h1 : highOf b v.sm ≤ 0 ∨ 0 < lowOf b v.sm, Φ (.bool (decide (highOf b v.sm ≤ 0))) (Gs fd b ts rest) := fun h1 => by
        have hr : rowF b k v.sm = .inl (decide (highOf b v.sm ≤ 0)) := by unfold rowF; rw [if_pos hk, if_pos h1]
        rw [hr] at h
        exact h
      refine WpS_cons (WpX_if ?_)
      repeat walk_at "e"
      by_cases h1 : highOf b v.sm ≤ 0
      · refine ifT (decide_eq_true h1) ?_
        refine ifT rfl ?_
        refine WpS_cons (WpX_return ?_)
        repeat walk_at "e"
        exact early (.inl h1)
      refine ifF (decide_eq_false h1) ?_
      repeat walk_at "e"
      by_cases h2 : 0 < lowOf b v.sm
      · refine ifT (decide_eq_true h2) ?_
        refine ifT rfl ?_
        refine WpS_cons (WpX_return ?_)
        repeat walk_at "e"
        exact early (.inr h2)
      refine ifF (decide_eq_false h2) ?_
      repeat walk_at "e"
      refine ifF rfl ?_
      repeat refine WpS_nil ?_
      exact ⟨rfl, rfl, by (first | lia | omega), by unfold rowF; rw [if_pos hk, if_neg (fun q => q.elim h1 h2), if_neg (fun q => q.1 hk)]⟩
    refine ifF (by rw [sk_le]; exact decide_eq_false hk) ?_
    refine WpS_cons (WpX_if ?_)
    repeat walk_at "e"
    have early : ∀ h1 : 0 < lowOf b v.sm ∨ highOf b v.sm < 0, Φ (.bool (decide (k = .ne))) (Gs fd b ts rest) := fun h1 => by
      have hr : rowF b k v.sm = .inl (decide (k = .ne)) := by unfold rowF; rw [if_neg hk, if_pos h1]
      rw [hr] at h
      exact h
    by_cases h1 : 0 < lowOf b v.sm
    · refine ifT (decide_eq_true h1) ?_
      refine ifT rfl ?_
      refine WpS_cons (WpX_return ?_)
      repeat walk_at "e"
      refine ⟨sk_ok k, s_ne_ok, ?_⟩
      show Φ (.bool (eqV (.str k.s) (.str "linear_ne"))) _
      rw [sk_ne]
      exact early (.inl h1)
    refine ifF (decide_eq_false h1) ?_
    repeat walk_at "e"
    by_cases h2 : highOf b v.sm < 0
    · refine ifT (decide_eq_true h2) ?_
      refine ifT rfl ?_
      refine WpS_cons (WpX_return ?_)
      repeat walk_at "e"
      refine ⟨sk_ok k, s_ne_ok, ?_⟩
      show Φ (.bool (eqV (.str k.s) (.str "linear_ne"))) _
      rw [sk_ne]
      exact early (.inr h2)
    refine ifF (decide_eq_false h2) ?_
    repeat walk_at "e"
    refine ifF rfl ?_
    refine WpS_cons (WpX_if ?_)
    repeat walk_at "e"
    refine ⟨by rfl, by rfl, ?_⟩
    by_cases hne : lowOf b v.sm = highOf b v.sm
    · have hr : rowF b k v.sm = .inl (decide (k = .eq)) := by unfold rowF; rw [if_neg hk, if_neg (fun q => q.elim h1 h2), if_pos hne]
      rw [hr] at h
      refine ifT (show eqV (.int (lowOf b v.sm)) (.int (highOf b v.sm)) = true by rw [eqV_int]; exact decide_eq_true hne) ?_
      refine WpS_cons (WpX_return ?_)
      repeat walk_at "e"
      refine ⟨sk_ok k, s_eq_ok, ?_⟩
      show Φ (.bool (eqV (.str k.s) (.str "linear_eq"))) _
      rw [sk_eq]
      exact h
    refine ifF (show eqV (.int (lowOf b v.sm)) (.int (highOf b v.sm)) = false by rw [eqV_int]; exact decide_eq_false hne) ?_
    repeat refine WpS_nil ?_
    exact ⟨rfl, rfl, hne, by unfold rowF; rw [if_neg hk, if_neg (fun q => q.elim h1 h2), if_neg hne]; by_cases h3 : (-v.sm.k).fmod (gcds (v.sm.parts.map (·.2))) ≠ 0
                             · rw [if_pos h3, if_pos ⟨hk, h3⟩]
                             · rw [if_neg h3, if_neg (fun q => h3 q.2)]⟩
  obtain ⟨hne, hr⟩ := hP
  rw [hr] at h
  -- the common factor
  have hp : v.sm.parts ≠ [] := fun e => hne (by unfold lowOf highOf; rw [e]; simp)
  have hg := gcds_pos hp hnz hB
  refine WpS_cons (WpX_assignT ?_ (by intro env; with_unfolding_all rfl) (by intro env h; cases env; subst h; with_unfolding_all rfl) (by intro env; with_unfolding_all rfl))
  repeat walk_at "e"
  refine WpE_call _ (G_common_of t) (C_common_of t) ?_
  repeat walk_at "e"
  refine WpE_comp1 ⟨rfl, by decide +kernel, by decide +kernel, by decide +kernel⟩ (by decide +kernel) ?_ (by intro _ _; with_unfolding_all rfl)
  repeat walk_at "e"
  refine ⟨by decide, _, rfl, ?_⟩
  refine ⟨rfl, ?_⟩
  refine lvGo_map (fun _ => true) (fun w => match w with | .tup [_, a] => a | _ => .none) (fun _ => True) _ _ _ trivial (by simp; (first | lia | omega)) ?_ ?_
  · intro w hw m' acc _
    obtain ⟨p, hp', rfl⟩ := List.mem_map.mp hw
    refine ⟨_, asg_pair (.inl (by decide +kernel)) (.inl (by decide +kernel)), trivial, rfl, fun _ => ?_⟩
    repeat walk_at "e"
    exact ⟨rfl, rfl⟩
  intro m'
  have e0 : ([] : List V) ++ ((v.sm.parts.map pairV).filter fun _ => true).map (fun w => match w with | .tup [_, a] => a | _ => .none) = (v.sm.parts.map (·.2)).map V.int := by
    rw [List.nil_append, filt_true, List.map_map, List.map_map]; rfl
  rw [e0]
  refine ⟨rbs_all fun x hx => by obtain ⟨p, _, rfl⟩ := List.mem_map.mp hx; first | rfl | simp [rb], ?_⟩
  refine WpEs_nil ?_
  refine S_common t ?_
  repeat walk_at "e"
  refine ⟨by decide, _, rfl, ?_⟩
  show WpEs _ _ _ _ _ _ _
  repeat walk_at "e"
  refine ⟨_, asg_pair (.inr (by decide +kernel)) (.inl (by decide +kernel)), ?_⟩
  refine WpS_split (rowV (if k ≠ .le ∧ (-v.sm.k).fmod (gcds (v.sm.parts.map (·.2))) ≠ 0 then .inl (decide (k = .ne)) else .inr (tolds k v.sm)) = toldV (tolds k v.sm)) (WpX_if ?_) fun hP => ?_
  · repeat walk_at "e"
    refine ⟨sk_ok k, s_le_ok, ?_⟩
    by_cases hk : k = .le
    · refine ifF (show (!eqV (.str k.s) (.str "linear_le")) = false by rw [sk_le, decide_eq_true hk]; rfl) ?_
      refine ifF rfl ?_
      refine WpS_nil ?_
      exact ⟨rfl, rfl, by rw [if_neg (fun q => q.1 hk)]; rfl⟩
    refine ifT (show (!eqV (.str k.s) (.str "linear_le")) = true by rw [sk_le, decide_eq_false hk]; rfl) ?_
    repeat walk_at "e"
    refine ⟨by (first | lia | omega), ?_⟩
    repeat walk_at "e"
    refine ⟨by rfl, by rfl, ?_⟩
    by_cases h3 : (-v.sm.k).fmod (gcds (v.sm.parts.map (·.2))) ≠ 0
    · rw [if_pos ⟨hk, h3⟩] at h
      refine ifT (show (!eqV (.int ((-v.sm.k).fmod (gcds (v.sm.parts.map (·.2))))) (.int 0)) = true by rw [eqV_int, decide_eq_false h3]; rfl) ?_
      repeat walk_at "e"
      refine ifT rfl ?_
      refine WpS_cons (WpX_return ?_)
      repeat walk_at "e"
      refine ⟨sk_ok k, s_ne_ok, ?_⟩
      show Φ (.bool (eqV (.str k.s) (.str "linear_ne"))) _
      rw [sk_ne]
      exact h
    refine ifF (show (!eqV (.int ((-v.sm.k).fmod (gcds (v.sm.parts.map (·.2))))) (.int 0)) = false by rw [eqV_int, decide_eq_true (Decidable.not_not.mp h3)]; rfl) ?_
    refine ifF rfl ?_
    refine WpS_nil ?_
    exact ⟨rfl, rfl, by rw [if_neg (fun q => h3 q.2)]; rfl⟩
  rw [hP] at h
  refine WpS_cons (WpX_return ?_)
  repeat walk_at "e"
  refine WpE_call _ (B_tuple t) trivial ?_
  repeat walk_at "e"
  refine WpE_comp1 ⟨rfl, by decide +kernel, by decide +kernel, by decide +kernel⟩ (by decide +kernel) ?_ (by intro _ _; with_unfolding_all rfl)
  repeat walk_at "e"
  refine ⟨by decide, _, rfl, ?_⟩
  refine ⟨rfl, ?_⟩
  refine lvGo_map (fun _ => true) (fun w => match w with | .tup [_, .int a] => .int (a.fdiv (gcds (v.sm.parts.map (·.2)))) | _ => .none) (fun m' => m' "common" = some (.int (gcds (v.sm.parts.map (·.2))))) _ _ _ rfl (by simp; (first | lia | omega)) ?_ ?_
  · intro w hw m' acc hm'
    obtain ⟨p, hp', rfl⟩ := List.mem_map.mp hw
    refine ⟨_, asg_pair (.inl (by decide +kernel)) (.inl (by decide +kernel)), hm', rfl, fun _ => ?_⟩
    repeat walk_at "e"
    refine ⟨by (first | lia | omega), hg.2, ?_⟩
    exact ⟨rfl, rfl⟩
  intro m'
  have e1 : ([] : List V) ++ ((v.sm.parts.map pairV).filter fun _ => true).map (fun w => match w with | .tup [_, .int a] => .int (a.fdiv (gcds (v.sm.parts.map (·.2)))) | _ => .none) = (v.sm.parts.map fun p => p.2.fdiv (gcds (v.sm.parts.map (·.2)))).map V.int := by
    rw [List.nil_append, filt_true, List.map_map, List.map_map]; rfl
  rw [e1]
  refine ⟨rbs_all fun x hx => by obtain ⟨p, _, rfl⟩ := List.mem_map.mp hx; first | rfl | simp [rb], ?_⟩
  refine WpEs_nil ?_
  refine WpC_tuple (by rw [List.length_map, List.length_map]; unfold sizeLine; (first | lia | omega)) ?_
  repeat walk_at "e"
  refine WpE_call _ (B_tuple t) trivial ?_
  repeat walk_at "e"
  refine WpE_comp1 ⟨rfl, by decide +kernel, by decide +kernel, by decide +kernel⟩ (by decide +kernel) ?_ (by intro _ _; with_unfolding_all rfl)
  repeat walk_at "e"
  refine ⟨by decide, _, rfl, ?_⟩
  refine ⟨rfl, ?_⟩
  refine lvGo_map (fun _ => true) (fun w => match w with | .tup [x, _] => x | _ => .none) (fun _ => True) _ _ _ trivial (by simp; (first | lia | omega)) ?_ ?_
  · intro w hw m' acc _
    obtain ⟨p, hp', rfl⟩ := List.mem_map.mp hw
    refine ⟨_, asg_pair (.inl (by decide +kernel)) (.inl (by decide +kernel)), trivial, rfl, fun _ => ?_⟩
    repeat walk_at "e"
    exact ⟨rfl, rfl⟩
  intro m'
  have e2 : ([] : List V) ++ ((v.sm.parts.map pairV).filter fun _ => true).map (fun w => match w with | .tup [x, _] => x | _ => .none) = (v.sm.parts.map (·.1)).map V.int := by
    rw [List.nil_append, filt_true, List.map_map, List.map_map]; rfl
  rw [e2]
  refine ⟨rbs_all fun x hx => by obtain ⟨p, _, rfl⟩ := List.mem_map.mp hx; first | rfl | simp [rb], ?_⟩
  refine WpEs_nil ?_
  refine WpC_tuple (by rw [List.length_map, List.length_map]; unfold sizeLine; (first | lia | omega)) ?_
  repeat walk_at "e"
  refine ⟨by (first | lia | omega), hg.2, ?_⟩
  show WpEs _ _ _ _ _ _ _
  repeat walk_at "e"
  exact h
end

/-! part C7 -/
/-! a truth made once -/
theorem made_at : ∀ (ts : List TK) (k : TK) (i : Nat), getK ((ts.zipIdx i).map fun p => (p.1, V.int ((p.2 : Nat) : Int))) k = (ts.findIdx? fun x => decide (x = k)).map fun j => V.int ((i + j : Nat) : Int)
  | [], _, _ => rfl
  | t :: ts, k, i => by
    rw [List.zipIdx_cons, List.map_cons, List.findIdx?_cons]
    unfold getK
    by_cases h : t = k
    · simp [h]
    · have ih := made_at ts k (i + 1)
      unfold getK at ih
      rw [List.find?_cons_of_neg (by simpa using h), ih]
      simp only [h, decide_false, Bool.false_eq_true, if_false, Option.map_map]
      congr 1
      funext j
      show V.int _ = V.int _
      congr 1
      simp
      (first | lia | omega)
theorem toldsV_snoc (ts : List TK) (t : TK) : toldsV (ts ++ [t]) = toldsV ts ++ [reifV (t, 3 + ts.length)] := by
  unfold toldsV; rw [List.zipIdx_append, List.map_append]; rfl
theorem madeV_snoc (ts : List TK) (t : TK) : madeV (ts ++ [t]) = madeV ts ++ [(t, .int ((3 + ts.length : Nat) : Int))] := by
  unfold madeV; rw [List.zipIdx_append, List.map_append]; rfl
theorem fstr_small : ∀ i < 600, (fstr "#" ((i : Nat) : Int)).length ≤ 10000 := by
  have : (List.range 600).all (fun i => decide ((fstr "#" ((i : Nat) : Int)).length ≤ 10000)) = true := by decide +kernel
  intro i hi
  exact of_decide_eq_true (List.all_eq_true.mp this i (List.mem_range.mpr hi))
noncomputable def posOf (ts : List TK) (k : TK) : Option Nat := ts.findIdx? fun x => decide (x = k)
theorem asg_4 {sc : Scope} {x y z u : Str} {p1 p2 p3 p4 p5 : Pos} {k : Nat} {a b d e : V} {m : Loc} (hx : sc.names.lookup x = some .local) (hy : sc.names.lookup y = some .local) (hz : sc.names.lookup z = some .local) (hu : sc.names.lookup u = some .local) :
    asg1 sc (.Tuple [.Name x p1, .Name y p2, .Name z p3, .Name u p4] k p5) (.tup [a, b, d, e]) m = some (upd (upd (upd (upd m x a) y b) z d) u e) := by
  simp only [asg1_tup, asgs_cons, asgs_nil, asgN_name, hx, hy, hz, hu, true_or, if_true, Option.bind_some]
section
variable {c : Cx} {n : Nat} {fd : O} {b : Base} {ts : List TK} {rest : List O} {σ : List O}
theorem tr_real (t : Txt c) : ∀ (μ : List Addr) (h : Heap), HG c μ σ h → VR h μ TRv (.ref 134) := by
  intro μ h G
  obtain ⟨a, k, k', u, w, h1, h2⟩ := O_TRUTHS t
  have b1 := G.kin _ _ h1
  have b2 := G.kin _ _ h2
  have off : ∀ {x : Addr} {o : Obj}, c.K.lookup x = some o → x ∉ μ := fun e hm => by
    have := G.ok.x _ _ e
    rw [(G.new _ hm).1] at this; cases this
  exact VR.tup (off h1) b1 (VRs.one (VR.tup (off h2) b2 (VRs.cons (VR.int _ _) (VRs.one (VR.int _ _)))))

theorem S_once (t : Txt c) {k : TK} {Φ : V → List O → Prop} (hk : PyData.strOk k.1 = true) (hz : ts.length < 500)
    (h : match posOf ts k with
      | some i => Φ (.tup [.int ((3 + i : Nat) : Int), .bool false]) (Gs fd b ts rest)
      | none => Φ (.tup [.int ((3 + ts.length : Nat) : Int), .bool true]) (St fd (varsV b (3 + ts.length + 1)) (toldsV ts) (madeV (ts ++ [k])) rest)) :
    WpC c (n + 2) (.ref 188) (Gs fd b ts rest) [.inst 269 1, keyV k, TRv] Φ := by
  refine WpC_def (D_once t) rfl ?_
  unfold bd_once
  dsimp only
  have hat := made_at ts k 3
  refine WpS_cons ?_
  walk_at "s"
  refine WpE_notinT ?_ (by with_unfolding_all rfl)
  repeat walk_at "e"
  refine WpE_attr (A_made t) ?_ (by intro _; with_unfolding_all rfl)
  repeat walk_at "e"
  refine ⟨1, _, .ref 5, rfl, rfl, rfl, ?_⟩
  refine ⟨5, madeV ts, k, rfl, rfl, rfl, hk, ?_⟩
  refine WpS_cons (WpX_if ?_)
  repeat walk_at "e"
  unfold posOf at h
  cases hp : ts.findIdx? fun x => decide (x = k) with
  | some i =>
    rw [hp] at h hat
    have hg : getK (madeV ts) k = some (.int ((3 + i : Nat) : Int)) := hat
    refine truF (by rw [hg]; rfl) ?_
    refine ifF rfl ?_
    refine WpS_nil ?_
    refine WpS_cons (WpX_return ?_)
    repeat walk_at "e"
    refine WpE_attr (A_made t) ?_ (by intro _; with_unfolding_all rfl)
    repeat walk_at "e"
    refine ⟨1, _, .ref 5, rfl, rfl, rfl, ?_⟩
    repeat walk_at "e"
    refine subOk_t (es := madeV ts) rfl hk hg ?_
    repeat walk_at "e"
    rw [hg]
    exact h
  | none =>
    rw [hp] at h hat
    have hg : getK (madeV ts) k = none := hat
    refine truT (by rw [hg]; rfl) ?_
    refine ifT rfl ?_
    refine WpS_cons (WpX_for ?_)
    repeat walk_at "e"
    refine ⟨trivial, _, asg_pair (.inl (by decide +kernel)) (.inl (by decide +kernel)), ?_⟩
    refine WpS_cons (WpX_expr ?_ (by intro env h; simp only [interactive, h]; decide +kernel) (by intro _; with_unfolding_all rfl))
    refine WpE_call _ (G_within_figures t) (C_within_figures t) ?_
    repeat walk_at "e"
    refine WpE_call _ (B_max t) trivial ?_
    repeat walk_at "e"
    refine WpE_call _ (B_abs t) trivial ?_
    repeat walk_at "e"
    refine WpC_abs ?_
    repeat walk_at "e"
    refine WpE_call _ (B_abs t) trivial ?_
    repeat walk_at "e"
    refine WpC_abs ?_
    repeat walk_at "e"
    refine WpC_max2 ?_
    repeat walk_at "e"
    refine S_within t (show Bd 1 from ⟨by decide +kernel, by decide +kernel⟩) ?_
    refine ⟨trivial, WpS_nil ?_⟩
    refine ⟨trivial, ?_⟩
    refine WpS_cons (WpX_setitem ?_)
    refine WpE_m (M_new_var t) (by intro _; with_unfolding_all rfl) (by intro _ _; with_unfolding_all rfl) ?_
    refine WpE_attr (A_flat t) ?_ (by intro _; with_unfolding_all rfl)
    repeat walk_at "e"
    refine ⟨1, _, .inst 80 2, rfl, rfl, rfl, ?_⟩
    refine ⟨2, _, rfl, rfl, rfl, ?_⟩
    repeat walk_at "e"
    refine WpE_fstr (by decide +kernel) ?_
    refine WpE_m (M_size t) (by intro _; with_unfolding_all rfl) (by intro _ _; with_unfolding_all rfl) ?_
    refine WpE_attr (A_flat t) ?_ (by intro _; with_unfolding_all rfl)
    repeat walk_at "e"
    refine ⟨1, _, .inst 80 2, rfl, rfl, rfl, ?_⟩
    refine ⟨2, _, rfl, rfl, rfl, ?_⟩
    repeat walk_at "e"
    refine S_size t (by rw [varsV_len]; (first | lia | omega)) ?_
    rw [varsV_len]
    refine ⟨_, rfl, ?_, fstr_small _ (by (first | lia | omega)), ?_⟩
    · rw [Int.natAbs_natCast]
      have h1 : Nat.log2 (3 + ts.length) < 10 := (Nat.log2_lt (by (first | lia | omega))).mpr (by (first | lia | omega))
      (first | lia | omega)
    repeat walk_at "e"
    refine S_new_var t (by rw [varsV_len]; (first | lia | omega)) ?_
    rw [varsV_len]
    have hv : varsV b (3 + ts.length) ++ [V.tup [.str (fstr "#" ((3 + ts.length : Nat) : Int)), TRv]] = varsV b (3 + ts.length + 1) := by
      rw [varsV_succ]
      congr 1
      have e : 3 + ts.length = ts.length + 3 := Nat.add_comm _ _
      rw [e]; rfl
    rw [hv]
    refine WpE_attr (A_made t) ?_ (by intro _; with_unfolding_all rfl)
    repeat walk_at "e"
    refine ⟨1, _, .ref 5, rfl, rfl, rfl, ?_⟩
    repeat walk_at "e"
    refine setOk_t (es := madeV ts) rfl hk hg (by unfold madeV; rw [List.length_map, List.length_zipIdx]; (first | lia | omega)) ?_
    refine WpS_nil ?_
    refine WpS_cons (WpX_return ?_)
    repeat walk_at "e"
    refine WpE_attr (A_made t) ?_ (by intro _; with_unfolding_all rfl)
    repeat walk_at "e"
    refine ⟨1, _, .ref 5, rfl, rfl, rfl, ?_⟩
    repeat walk_at "e"
    refine subOk_t (es := madeV ts ++ [(k, .int ((3 + ts.length : Nat) : Int))]) rfl hk (v := .int ((3 + ts.length : Nat) : Int)) ?_ ?_
    · unfold getK at hg ⊢
      rw [List.find?_append, Option.map_eq_none_iff.mp hg]
      simp
    repeat walk_at "e"
    rw [hg]
    rw [madeV_snoc] at h
    exact h

/-! the truth of a told row -/
noncomputable def kindOf_ (k : Str) : Bool := eqV (.str k) (.str "linear_eq")
noncomputable def neg_ (cs : List Int) : List Int := cs.map fun a => -a
/-- what told_truth gives, and the rows made -/
noncomputable def ttF (b : Base) (ts : List TK) (k : TK) : Tr × List TK :=
  if k.2.1 = [1] ∧ b.dom (k.2.2.1.head?.getD 0).toNat = [(0, 1)] then (.bit (k.2.2.1.head?.getD 0) (kindOf_ k.1 && decide (k.2.2.2 = 1)), ts)
  else match posOf ts k with
    | some i => (.bit ((3 + i : Nat) : Int) true, ts)
    | none => (.bit ((3 + ts.length : Nat) : Int) true, ts ++ [k])

theorem eqvAll_ints : ∀ (a b : List Int), PyData.eqvAll (pys (a.map V.int)) (pys (b.map V.int)) = decide (a = b)
  | [], [] => rfl
  | [], _ :: _ => rfl
  | _ :: _, [] => rfl
  | x :: a, y :: b => by
    show (PyData.eqv (.int x) (.int y) && PyData.eqvAll (pys (a.map V.int)) (pys (b.map V.int))) = _
    simp only [PyData.eqv, eqvAll_ints a b]
    by_cases h1 : x = y
    · by_cases h2 : a = b
      · simp [h1, h2]
      · simp [h1, h2]
    · simp [h1]
theorem eqV_ints (a b : List Int) : eqV (.tup (a.map V.int)) (.tup (b.map V.int)) = decide (a = b) := by
  first | exact eqvAll_ints a b | (show PyData.eqv (.tuple (pys (a.map V.int))) (.tuple (pys (b.map V.int))) = _; simp only [PyData.eqv, eqvAll_ints])
theorem eqvAll_pairs : ∀ (a b : List (Int × Int)), PyData.eqvAll (pys (a.map pairV)) (pys (b.map pairV)) = decide (a = b)
  | [], [] => rfl
  | [], _ :: _ => rfl
  | _ :: _, [] => rfl
  | (x, u) :: a, (y, w) :: b => by
    show (PyData.eqv (.tuple [.int x, .int u]) (.tuple [.int y, .int w]) && PyData.eqvAll (pys (a.map pairV)) (pys (b.map pairV))) = _
    simp only [PyData.eqv, PyData.eqvAll, eqvAll_pairs a b]
    by_cases h1 : x = y
    · by_cases h2 : u = w
      · by_cases h3 : a = b
        · simp [h1, h2, h3]
        · simp [h1, h2, h3]
      · simp [h1, h2]
    · simp [h1]
theorem eqV_dom (a b : List (Int × Int)) : eqV (domV a) (domV b) = decide (a = b) := by
  first | exact eqvAll_pairs a b | (show PyData.eqv (.tuple (pys (a.map pairV))) (.tuple (pys (b.map pairV))) = _; simp only [PyData.eqv, eqvAll_pairs])
theorem isD_ints (a : List Int) : isD 8 (.tup (a.map V.int)) = true := by
  exact isDs_all fun x hx => by obtain ⟨p, _, rfl⟩ := List.mem_map.mp hx; first | rfl | simp [isD]
theorem isD_dom (a : List (Int × Int)) : isD 8 (domV a) = true := by
  exact isDs_all (n := 7) fun x hx => by obtain ⟨p, _, rfl⟩ := List.mem_map.mp hx; exact isD_pair p

theorem S_told_truth (t : Txt c) {k : TK} {Φ : V → List O → Prop} (hk : PyData.strOk k.1 = true) (hz : ts.length < 500) (hl : k.2.1.length = k.2.2.1.length) (hx : ∀ x ∈ k.2.2.1, 0 ≤ x ∧ x < 3 + (ts.length : Int))
    (h : Φ (ttF b ts k).1.v (Gs fd b (ttF b ts k).2 rest)) :
    WpC c (n + 3) (.ref 233) (Gs fd b ts rest) [.inst 269 1, toldV k] Φ := by
  obtain ⟨kd, cs, xs, cc⟩ := k
  simp only at hk hl hx
  refine WpC_def (D_told_truth t) rfl ?_
  unfold bd_told_truth
  dsimp only
  refine WpS_cons (WpX_assignT ?_ (by intro env; with_unfolding_all rfl) (by intro env h; cases env; subst h; with_unfolding_all rfl) (by intro env; with_unfolding_all rfl))
  repeat walk_at "e"
  refine ⟨_, asg_4 (by decide +kernel) (by decide +kernel) (by decide +kernel) (by decide +kernel), ?_⟩
  refine WpS_cons (WpX_if ?_)
  repeat walk_at "e"
  refine ⟨isD_ints cs, isD_ints [1], ?_⟩
  by_cases hc : cs = [1]
  · subst hc
    obtain ⟨x, rfl⟩ : ∃ x, xs = [x] := by
      match xs, hl with
      | [x], _ => exact ⟨x, rfl⟩
    have hx0 := hx x (by simp)
    refine ifT (show eqV (.tup (([1] : List Int).map V.int)) (.tup (([1] : List Int).map V.int)) = true by rw [eqV_ints]; simp) ?_
    repeat walk_at "e"
    refine WpE_m (M_domain_of t) (by intro _; with_unfolding_all rfl) (by intro _ _; with_unfolding_all rfl) ?_
    refine WpE_attr (A_flat t) ?_ (by intro _; with_unfolding_all rfl)
    repeat walk_at "e"
    refine ⟨1, _, .inst 80 2, rfl, rfl, rfl, ?_⟩
    refine ⟨2, _, rfl, rfl, rfl, ?_⟩
    repeat walk_at "e"
    refine ⟨by decide, _, rfl, ?_⟩
    show WpEs _ _ _ _ _ _ _
    repeat walk_at "e"
    refine WpC.room (k := n + 1) (S_domain_of t hx0.1 (by (first | lia | omega)) (varsV_at b (by (first | lia | omega))) ?_) (by (first | lia | omega))
    refine WpE_glo (G_TRUTHS t) (tr_real t) ?_
    refine ⟨isD_dom _, isD_dom _, ?_⟩
    by_cases hd : b.dom x.toNat = [(0, 1)]
    · refine ifT (show eqV (domV (b.dom x.toNat)) (domV [(0, 1)]) = true by rw [eqV_dom]; exact decide_eq_true hd) ?_
      repeat walk_at "e"
      refine ifT rfl ?_
      refine WpS_cons (WpX_return ?_)
      repeat walk_at "e"
      refine ⟨by decide, _, rfl, ?_⟩
      show WpEs _ _ _ _ _ _ _
      repeat walk_at "e"
      refine ⟨hk, by decide +kernel, ?_⟩
      have hF : ttF b ts (kd, [1], [x], cc) = (.bit x (kindOf_ kd && decide (cc = 1)), ts) := if_pos ⟨rfl, hd⟩
      rw [hF] at h
      show TruOk (.bool (kindOf_ kd)) _
      cases hk2 : kindOf_ kd with
      | true =>
        rw [hk2] at h
        refine truT rfl ?_
        refine ifT rfl ?_
        repeat walk_at "e"
        refine ⟨by rfl, by rfl, ?_⟩
        repeat walk_at "e"
        show Φ (.tup [.str "bit", .int x, .bool (eqV (.int cc) (.int 1))]) _
        rw [eqV_int]
        exact h
      | false =>
        rw [hk2] at h
        refine truF rfl ?_
        refine ifF rfl ?_
        repeat walk_at "e"
        show Φ (.tup [.str "bit", .int x, .bool (kindOf_ kd)]) _
        rw [hk2]
        exact h
    have hn : ¬ (([1] : List Int) = [1] ∧ b.dom (([x] : List Int).head?.getD 0).toNat = [(0, 1)]) := fun q => hd q.2
    refine ifF (show eqV (domV (b.dom x.toNat)) (domV [(0, 1)]) = false by rw [eqV_dom]; exact decide_eq_false hd) ?_
    refine ifF rfl ?_
    refine WpS_nil ?_
    refine WpS_cons (WpX_assignT ?_ (by intro env; with_unfolding_all rfl) (by intro env h; cases env; subst h; with_unfolding_all rfl) (by intro env; with_unfolding_all rfl))
    refine WpE_m (M_once t) (by intro _; with_unfolding_all rfl) (by intro _ _; with_unfolding_all rfl) ?_
    repeat walk_at "e"
    refine ⟨1, _, rfl, rfl, rfl, ?_⟩
    repeat walk_at "e"
    refine WpE_glo (G_TRUTHS t) (tr_real t) ?_
    repeat walk_at "e"
    refine S_once t (k := (kd, [1], [x], cc)) hk hz ?_
    have hF : ttF b ts (kd, [1], [x], cc) = match posOf ts (kd, [1], [x], cc) with
      | some i => (.bit ((3 + i : Nat) : Int) true, ts)
      | none => (.bit ((3 + ts.length : Nat) : Int) true, ts ++ [(kd, [1], [x], cc)]) := if_neg hn
    rw [hF] at h
    cases hp : posOf ts (kd, [1], [x], cc) with
    | some i =>
      rw [hp] at h
      refine ⟨_, asg_pair (.inl (by decide +kernel)) (.inl (by decide +kernel)), ?_⟩
      refine WpS_cons (WpX_if ?_)
      repeat walk_at "e"
      refine truF rfl ?_
      refine ifF rfl ?_
      refine WpS_nil ?_
      refine WpS_cons (WpX_return ?_)
      repeat walk_at "e"
      exact h
    | none =>
      rw [hp] at h
      refine ⟨_, asg_pair (.inl (by decide +kernel)) (.inl (by decide +kernel)), ?_⟩
      refine WpS_cons (WpX_if ?_)
      repeat walk_at "e"
      refine truT rfl ?_
      refine ifT rfl ?_
      refine WpS_cons (WpX_expr ?_ (by intro env h; simp only [interactive, h]; decide +kernel) (by intro _; with_unfolding_all rfl))
      refine WpE_m (M_post t) (by intro _; with_unfolding_all rfl) (by intro _ _; with_unfolding_all rfl) ?_
      refine WpE_attr (A_flat t) ?_ (by intro _; with_unfolding_all rfl)
      repeat walk_at "e"
      refine ⟨1, _, .inst 80 2, rfl, rfl, rfl, ?_⟩
      refine ⟨2, _, rfl, rfl, rfl, ?_⟩
      repeat walk_at "e"
      refine S_post t (by unfold toldsV; rw [List.length_map, List.length_zipIdx]; (first | lia | omega)) ?_
      refine ⟨trivial, ?_⟩
      refine WpS_nil ?_
      refine WpS_cons (WpX_return ?_)
      repeat walk_at "e"
      have e1 : toldsV (ts ++ [(kd, [1], [x], cc)]) = toldsV ts ++ [V.tup [.str "reif", .int ((3 + ts.length : Nat) : Int), toldV (kd, [1], [x], cc)]] := toldsV_snoc ts _
      have e2 : 3 + (ts ++ [(kd, [1], [x], cc)]).length = 3 + ts.length + 1 := by rw [List.length_append]; rfl
      simp only [Gs] at h
      rw [e1, e2] at h
      exact h
  · have hn : ¬ (cs = [1] ∧ b.dom (xs.head?.getD 0).toNat = [(0, 1)]) := fun q => hc q.1
    refine ifF (show eqV (.tup (cs.map V.int)) (.tup (([1] : List Int).map V.int)) = false by rw [eqV_ints]; exact decide_eq_false hc) ?_
    refine ifF rfl ?_
    refine WpS_nil ?_
    refine WpS_cons (WpX_assignT ?_ (by intro env; with_unfolding_all rfl) (by intro env h; cases env; subst h; with_unfolding_all rfl) (by intro env; with_unfolding_all rfl))
    refine WpE_m (M_once t) (by intro _; with_unfolding_all rfl) (by intro _ _; with_unfolding_all rfl) ?_
    repeat walk_at "e"
    refine ⟨1, _, rfl, rfl, rfl, ?_⟩
    repeat walk_at "e"
    refine WpE_glo (G_TRUTHS t) (tr_real t) ?_
    repeat walk_at "e"
    refine S_once t (k := (kd, cs, xs, cc)) hk hz ?_
    have hF : ttF b ts (kd, cs, xs, cc) = match posOf ts (kd, cs, xs, cc) with
      | some i => (.bit ((3 + i : Nat) : Int) true, ts)
      | none => (.bit ((3 + ts.length : Nat) : Int) true, ts ++ [(kd, cs, xs, cc)]) := if_neg hn
    rw [hF] at h
    cases hp : posOf ts (kd, cs, xs, cc) with
    | some i =>
      rw [hp] at h
      refine ⟨_, asg_pair (.inl (by decide +kernel)) (.inl (by decide +kernel)), ?_⟩
      refine WpS_cons (WpX_if ?_)
      repeat walk_at "e"
      refine truF rfl ?_
      refine ifF rfl ?_
      refine WpS_nil ?_
      refine WpS_cons (WpX_return ?_)
      repeat walk_at "e"
      exact h
    | none =>
      rw [hp] at h
      refine ⟨_, asg_pair (.inl (by decide +kernel)) (.inl (by decide +kernel)), ?_⟩
      refine WpS_cons (WpX_if ?_)
      repeat walk_at "e"
      refine truT rfl ?_
      refine ifT rfl ?_
      refine WpS_cons (WpX_expr ?_ (by intro env h; simp only [interactive, h]; decide +kernel) (by intro _; with_unfolding_all rfl))
      refine WpE_m (M_post t) (by intro _; with_unfolding_all rfl) (by intro _ _; with_unfolding_all rfl) ?_
      refine WpE_attr (A_flat t) ?_ (by intro _; with_unfolding_all rfl)
      repeat walk_at "e"
      refine ⟨1, _, .inst 80 2, rfl, rfl, rfl, ?_⟩
      refine ⟨2, _, rfl, rfl, rfl, ?_⟩
      repeat walk_at "e"
      refine S_post t (by unfold toldsV; rw [List.length_map, List.length_zipIdx]; (first | lia | omega)) ?_
      refine ⟨trivial, ?_⟩
      refine WpS_nil ?_
      refine WpS_cons (WpX_return ?_)
      repeat walk_at "e"
      have e1 : toldsV (ts ++ [(kd, cs, xs, cc)]) = toldsV ts ++ [V.tup [.str "reif", .int ((3 + ts.length : Nat) : Int), toldV (kd, cs, xs, cc)]] := toldsV_snoc ts _
      have e2 : 3 + (ts ++ [(kd, cs, xs, cc)]).length = 3 + ts.length + 1 := by rw [List.length_append]; rfl
      simp only [Gs] at h
      rw [e1, e2] at h
      exact h
end

/-! part C8 -/
/-! row_truth -/
noncomputable def rtF0 (b : Base) (ts : List TK) (k : Rk) (s : Sm) : Tr × List TK := match rowF b k s with
  | .inl r => (.bool r, ts)
  | .inr t => if t.2.1.head?.getD 0 < 0 ∧ k = .le then ((ttF b ts (t.1, neg_ t.2.1, t.2.2.1, -t.2.2.2 - 1)).1.no, (ttF b ts (t.1, neg_ t.2.1, t.2.2.1, -t.2.2.2 - 1)).2)
    else ttF b ts (if 0 < t.2.1.head?.getD 0 then t else (t.1, neg_ t.2.1, t.2.2.1, -t.2.2.2))
noncomputable def rtF (b : Base) (ts : List TK) (k : Rk) (s : Sm) : Tr × List TK := if k = .ne then (match rowF b .ne s with
  | .inl r => (.bool r, ts)
  | .inr _ => ((rtF0 b ts .eq s).1.no, (rtF0 b ts .eq s).2)) else rtF0 b ts k s
theorem rowF_inr {b : Base} {k : Rk} {s : Sm} {t : TK} (h : rowF b k s = .inr t) : t = tolds k s ∧ s.parts ≠ [] := by
  have key : lowOf b s ≠ highOf b s → s.parts ≠ [] := fun q e => q (by unfold lowOf highOf; rw [e]; simp)
  unfold rowF at h
  split at h
  · split at h
    · cases h
    · rename_i h1
      cases h
      exact ⟨rfl, key (by (first | lia | omega))⟩
  · split at h
    · cases h
    · split at h
      · cases h
      · rename_i h3
        split at h
        · cases h
        · cases h
          exact ⟨rfl, key h3⟩
theorem Rk.ok (k : Rk) : PyData.strOk k.s = true := by cases k; exact s_le_ok; exact s_eq_ok; exact s_ne_ok
section
variable {c : Cx} {n : Nat} {fd : O} {b : Base} {ts : List TK} {rest : List O} {σ : List O}
structure SmOk (ts : List TK) (s : Sm) : Prop where
  nd : (s.parts.map (·.1)).Nodup
  nz : ∀ p ∈ s.parts, p.2 ≠ 0
  x : ∀ p ∈ s.parts, 0 ≤ p.1 ∧ p.1 < 3 + (ts.length : Int)
  len : s.parts.length < 1000
  bd : ∀ p ∈ s.parts, Bd p.2

theorem S_row_truth_le (t : Txt c) (o : b.Ok) {v : Sv} {Φ : V → List O → Prop} (hs : SmOk ts v.sm) (hz : ts.length < 500)
    (h : Φ (rtF0 b ts .le v.sm).1.v (Gs fd b (rtF0 b ts .le v.sm).2 rest)) :
    WpC c (n + 5) (.ref 226) (Gs fd b ts rest) [.inst 269 1, .str (Rk.s .le), v.v] Φ := by
  refine WpC_def (D_row_truth t) rfl ?_
  unfold bd_row_truth
  dsimp only
  refine WpS_cons ?_
  walk_at "s"
  refine WpE_m (M_row t) (by intro _; with_unfolding_all rfl) (by intro _ _; with_unfolding_all rfl) ?_
  repeat walk_at "e"
  refine ⟨1, _, rfl, rfl, rfl, ?_⟩
  repeat walk_at "e"
  refine S_row t o (k := .le) hs.x hz hs.len hs.nz hs.bd ?_
  refine WpS_cons (WpX_if ?_)
  walk_at "e"
  refine WpE_isinstance (T := "bool") (.inr rfl) (B_isinstance t) (B_bool t) ?_
  repeat walk_at "e"
  unfold rtF0 at h
  cases hr : rowF b .le v.sm with
  | inl r =>
    rw [hr] at h
    refine isiBB ?_
    refine truT rfl ?_
    refine ifT rfl ?_
    refine WpS_cons (WpX_return ?_)
    repeat walk_at "e"
    exact h
  | inr td =>
    rw [hr] at h
    obtain ⟨hd, hp⟩ := rowF_inr hr
    obtain ⟨⟨x₀, a₀⟩, ps, hps⟩ : ∃ p ps, v.sm.parts = p :: ps := by
      cases q : v.sm.parts with
      | nil => exact absurd q hp
      | cons p ps => exact ⟨p, ps, rfl⟩
    have hxs : ∀ x ∈ td.2.2.1, 0 ≤ x ∧ x < 3 + (ts.length : Int) := by
      subst hd
      intro x hx
      obtain ⟨p, hp1, rfl⟩ := List.mem_map.mp hx
      exact hs.x p hp1
    have hlen : td.2.1.length = td.2.2.1.length := by subst hd; simp [tolds]
    have hk1 : td.1 = Rk.s .le := by subst hd; rfl
    have hcl : td.2.1.length < 1000 := by subst hd; simp [tolds]; exact hs.len
    obtain ⟨a, cs', hcs⟩ : ∃ a cs', td.2.1 = a :: cs' := by subst hd; exact ⟨_, _, by show v.sm.parts.map _ = _; rw [hps]; rfl⟩
    obtain ⟨kd, cs, xs, cc⟩ := td
    simp only at hxs hlen hk1 hcl hcs
    subst hk1
    simp only at h
    refine isiBT ?_
    refine truF rfl ?_
    refine ifF rfl ?_
    refine WpS_nil ?_
    refine WpS_cons (WpX_assignT ?_ (by intro env; with_unfolding_all rfl) (by intro env h; cases env; subst h; with_unfolding_all rfl) (by intro env; with_unfolding_all rfl))
    repeat walk_at "e"
    refine ⟨_, asg_4 (by decide +kernel) (by decide +kernel) (by decide +kernel) (by decide +kernel), ?_⟩
    refine WpS_cons (WpX_if ?_)
    repeat walk_at "e"
    refine ⟨s_le_ok, s_ne_ok, ?_⟩
    refine ifF s_le_ne ?_
    refine WpS_nil ?_
    refine WpS_cons ?_
    walk_at "s"
    refine WpE_call _ (B_tuple t) trivial ?_
    repeat walk_at "e"
    refine WpE_comp1 ⟨rfl, by decide +kernel, by decide +kernel, by decide +kernel⟩ (by decide +kernel) ?_ (by intro _ _; with_unfolding_all rfl)
    repeat walk_at "e"
    refine ⟨rfl, ?_⟩
    refine lvGo_map (fun _ => true) (fun w => match w with | .int a => .int (-a) | _ => .none) (fun _ => True) _ _ _ trivial (by simp; (first | lia | omega)) ?_ ?_
    · intro w hw m' acc _
      obtain ⟨p, hp', rfl⟩ := List.mem_map.mp hw
      refine ⟨_, asg_name (.inl (by decide +kernel)), trivial, rfl, fun _ => ?_⟩
      repeat walk_at "e"
      exact ⟨rfl, rfl⟩
    intro m'
    have e1 : ([] : List V) ++ ((cs.map V.int).filter fun _ => true).map (fun w => match w with | .int a => .int (-a) | _ => .none) = (neg_ cs).map V.int := by
      rw [List.nil_append, filt_true, List.map_map]; unfold neg_; rw [List.map_map]; rfl
    rw [e1]
    refine ⟨rbs_all fun x hx => by obtain ⟨p, _, rfl⟩ := List.mem_map.mp hx; first | rfl | simp [rb], ?_⟩
    refine WpEs_nil ?_
    refine WpC_tuple (by rw [List.length_map]; unfold neg_; rw [List.length_map]; unfold sizeLine; (first | lia | omega)) ?_
    refine WpS_cons (WpX_if ?_)
    repeat walk_at "e"
    have hi0 : pyIdx (cs.map V.int) 0 = some (.int a) := by rw [hcs]; rfl
    refine ⟨by decide, _, hi0, ?_⟩
    repeat walk_at "e"
    have ha : cs.head?.getD 0 = a := by rw [hcs]; rfl
    rw [ha] at h
    have hneg : (neg_ cs).length = xs.length := by unfold neg_; rw [List.length_map]; exact hlen
    by_cases h1 : a < 0
    · rw [if_pos ⟨h1, trivial⟩] at h
      refine ifT (decide_eq_true h1) ?_
      repeat walk_at "e"
      refine ⟨s_le_ok, s_le_ok, ?_⟩
      refine ifT s_le_le ?_
      repeat walk_at "e"
      refine ifT rfl ?_
      refine WpS_cons (WpX_return ?_)
      refine WpE_call _ (G_contrary t) (C_contrary t) ?_
      repeat walk_at "e"
      refine WpE_m (M_told_truth t) (by intro _; with_unfolding_all rfl) (by intro _ _; with_unfolding_all rfl) ?_
      repeat walk_at "e"
      refine ⟨1, _, rfl, rfl, rfl, ?_⟩
      repeat walk_at "e"
      show WpEs _ _ _ _ _ _ _
      repeat walk_at "e"
      refine WpC.room (k := n + 3) (S_told_truth (n := n) t (k := (Rk.s .le, neg_ cs, xs, -cc - 1)) (Rk.ok _) hz hneg hxs ?_) (by (first | lia | omega))
      repeat walk_at "e"
      refine WpC.room (k := 1) (S_contrary (n := 0) t ?_) (by (first | lia | omega))
      exact h
    rw [if_neg (fun q => h1 q.1)] at h
    refine ifF (decide_eq_false h1) ?_
    refine ifF rfl ?_
    refine WpS_nil ?_
    refine WpS_cons (WpX_return ?_)
    refine WpE_m (M_told_truth t) (by intro _; with_unfolding_all rfl) (by intro _ _; with_unfolding_all rfl) ?_
    repeat walk_at "e"
    refine ⟨1, _, rfl, rfl, rfl, ?_⟩
    repeat walk_at "e"
    refine ⟨by decide, _, hi0, ?_⟩
    repeat walk_at "e"
    by_cases h0 : 0 < a
    · rw [if_pos h0] at h
      refine ifT (decide_eq_true h0) ?_
      repeat walk_at "e"
      refine WpC.room (k := n + 3) (S_told_truth (n := n) t (k := (Rk.s .le, cs, xs, cc)) (Rk.ok _) hz hlen hxs ?_) (by (first | lia | omega))
      exact h
    · rw [if_neg h0] at h
      refine ifF (decide_eq_false h0) ?_
      repeat walk_at "e"
      refine WpC.room (k := n + 3) (S_told_truth (n := n) t (k := (Rk.s .le, neg_ cs, xs, -cc)) (Rk.ok _) hz hneg hxs ?_) (by (first | lia | omega))
      exact h

theorem S_row_truth_eq (t : Txt c) (o : b.Ok) {v : Sv} {Φ : V → List O → Prop} (hs : SmOk ts v.sm) (hz : ts.length < 500)
    (h : Φ (rtF0 b ts .eq v.sm).1.v (Gs fd b (rtF0 b ts .eq v.sm).2 rest)) :
    WpC c (n + 5) (.ref 226) (Gs fd b ts rest) [.inst 269 1, .str (Rk.s .eq), v.v] Φ := by
  refine WpC_def (D_row_truth t) rfl ?_
  unfold bd_row_truth
  dsimp only
  refine WpS_cons ?_
  walk_at "s"
  refine WpE_m (M_row t) (by intro _; with_unfolding_all rfl) (by intro _ _; with_unfolding_all rfl) ?_
  repeat walk_at "e"
  refine ⟨1, _, rfl, rfl, rfl, ?_⟩
  repeat walk_at "e"
  refine S_row t o (k := .eq) hs.x hz hs.len hs.nz hs.bd ?_
  refine WpS_cons (WpX_if ?_)
  walk_at "e"
  refine WpE_isinstance (T := "bool") (.inr rfl) (B_isinstance t) (B_bool t) ?_
  repeat walk_at "e"
  unfold rtF0 at h
  cases hr : rowF b .eq v.sm with
  | inl r =>
    rw [hr] at h
    refine isiBB ?_
    refine truT rfl ?_
    refine ifT rfl ?_
    refine WpS_cons (WpX_return ?_)
    repeat walk_at "e"
    exact h
  | inr td =>
    rw [hr] at h
    obtain ⟨hd, hp⟩ := rowF_inr hr
    obtain ⟨⟨x₀, a₀⟩, ps, hps⟩ : ∃ p ps, v.sm.parts = p :: ps := by
      cases q : v.sm.parts with
      | nil => exact absurd q hp
      | cons p ps => exact ⟨p, ps, rfl⟩
    have hxs : ∀ x ∈ td.2.2.1, 0 ≤ x ∧ x < 3 + (ts.length : Int) := by
      subst hd
      intro x hx
      obtain ⟨p, hp1, rfl⟩ := List.mem_map.mp hx
      exact hs.x p hp1
    have hlen : td.2.1.length = td.2.2.1.length := by subst hd; simp [tolds]
    have hk1 : td.1 = Rk.s .eq := by subst hd; rfl
    have hcl : td.2.1.length < 1000 := by subst hd; simp [tolds]; exact hs.len
    obtain ⟨a, cs', hcs⟩ : ∃ a cs', td.2.1 = a :: cs' := by subst hd; exact ⟨_, _, by show v.sm.parts.map _ = _; rw [hps]; rfl⟩
    obtain ⟨kd, cs, xs, cc⟩ := td
    simp only at hxs hlen hk1 hcl hcs
    subst hk1
    simp only at h
    refine isiBT ?_
    refine truF rfl ?_
    refine ifF rfl ?_
    refine WpS_nil ?_
    refine WpS_cons (WpX_assignT ?_ (by intro env; with_unfolding_all rfl) (by intro env h; cases env; subst h; with_unfolding_all rfl) (by intro env; with_unfolding_all rfl))
    repeat walk_at "e"
    refine ⟨_, asg_4 (by decide +kernel) (by decide +kernel) (by decide +kernel) (by decide +kernel), ?_⟩
    refine WpS_cons (WpX_if ?_)
    repeat walk_at "e"
    refine ⟨s_eq_ok, s_ne_ok, ?_⟩
    refine ifF s_eq_ne ?_
    refine WpS_nil ?_
    refine WpS_cons ?_
    walk_at "s"
    refine WpE_call _ (B_tuple t) trivial ?_
    repeat walk_at "e"
    refine WpE_comp1 ⟨rfl, by decide +kernel, by decide +kernel, by decide +kernel⟩ (by decide +kernel) ?_ (by intro _ _; with_unfolding_all rfl)
    repeat walk_at "e"
    refine ⟨rfl, ?_⟩
    refine lvGo_map (fun _ => true) (fun w => match w with | .int a => .int (-a) | _ => .none) (fun _ => True) _ _ _ trivial (by simp; (first | lia | omega)) ?_ ?_
    · intro w hw m' acc _
      obtain ⟨p, hp', rfl⟩ := List.mem_map.mp hw
      refine ⟨_, asg_name (.inl (by decide +kernel)), trivial, rfl, fun _ => ?_⟩
      repeat walk_at "e"
      exact ⟨rfl, rfl⟩
    intro m'
    have e1 : ([] : List V) ++ ((cs.map V.int).filter fun _ => true).map (fun w => match w with | .int a => .int (-a) | _ => .none) = (neg_ cs).map V.int := by
      rw [List.nil_append, filt_true, List.map_map]; unfold neg_; rw [List.map_map]; rfl
    rw [e1]
    refine ⟨rbs_all fun x hx => by obtain ⟨p, _, rfl⟩ := List.mem_map.mp hx; first | rfl | simp [rb], ?_⟩
    refine WpEs_nil ?_
    refine WpC_tuple (by rw [List.length_map]; unfold neg_; rw [List.length_map]; unfold sizeLine; (first | lia | omega)) ?_
    refine WpS_cons (WpX_if ?_)
    repeat walk_at "e"
    have hi0 : pyIdx (cs.map V.int) 0 = some (.int a) := by rw [hcs]; rfl
    refine ⟨by decide, _, hi0, ?_⟩
    repeat walk_at "e"
    have ha : cs.head?.getD 0 = a := by rw [hcs]; rfl
    rw [ha] at h
    have hneg : (neg_ cs).length = xs.length := by unfold neg_; rw [List.length_map]; exact hlen
    rw [if_neg (fun q => Rk.noConfusion q.2)] at h
    have skip : ∀ {P Q : Prop} {m : Loc}, Q → True := fun _ => trivial
    by_cases h1 : a < 0
    · refine ifT (decide_eq_true h1) ?_
      repeat walk_at "e"
      refine ⟨s_eq_ok, s_le_ok, ?_⟩
      refine ifF s_eq_le ?_
      refine ifF rfl ?_
      refine WpS_nil ?_
      refine WpS_cons (WpX_return ?_)
      refine WpE_m (M_told_truth t) (by intro _; with_unfolding_all rfl) (by intro _ _; with_unfolding_all rfl) ?_
      repeat walk_at "e"
      refine ⟨1, _, rfl, rfl, rfl, ?_⟩
      repeat walk_at "e"
      refine ⟨by decide, _, hi0, ?_⟩
      repeat walk_at "e"
      by_cases h0 : 0 < a
      · rw [if_pos h0] at h
        refine ifT (decide_eq_true h0) ?_
        repeat walk_at "e"
        refine WpC.room (k := n + 3) (S_told_truth (n := n) t (k := (Rk.s .eq, cs, xs, cc)) (Rk.ok _) hz hlen hxs ?_) (by (first | lia | omega))
        exact h
      · rw [if_neg h0] at h
        refine ifF (decide_eq_false h0) ?_
        repeat walk_at "e"
        refine WpC.room (k := n + 3) (S_told_truth (n := n) t (k := (Rk.s .eq, neg_ cs, xs, -cc)) (Rk.ok _) hz hneg hxs ?_) (by (first | lia | omega))
        exact h

    refine ifF (decide_eq_false h1) ?_
    refine ifF rfl ?_
    refine WpS_nil ?_
    refine WpS_cons (WpX_return ?_)
    refine WpE_m (M_told_truth t) (by intro _; with_unfolding_all rfl) (by intro _ _; with_unfolding_all rfl) ?_
    repeat walk_at "e"
    refine ⟨1, _, rfl, rfl, rfl, ?_⟩
    repeat walk_at "e"
    refine ⟨by decide, _, hi0, ?_⟩
    repeat walk_at "e"
    by_cases h0 : 0 < a
    · rw [if_pos h0] at h
      refine ifT (decide_eq_true h0) ?_
      repeat walk_at "e"
      refine WpC.room (k := n + 3) (S_told_truth (n := n) t (k := (Rk.s .eq, cs, xs, cc)) (Rk.ok _) hz hlen hxs ?_) (by (first | lia | omega))
      exact h
    · rw [if_neg h0] at h
      refine ifF (decide_eq_false h0) ?_
      repeat walk_at "e"
      refine WpC.room (k := n + 3) (S_told_truth (n := n) t (k := (Rk.s .eq, neg_ cs, xs, -cc)) (Rk.ok _) hz hneg hxs ?_) (by (first | lia | omega))
      exact h

theorem S_row_truth (t : Txt c) (o : b.Ok) {k : Rk} {v : Sv} {Φ : V → List O → Prop} (hs : SmOk ts v.sm) (hz : ts.length < 500)
    (h : Φ (rtF b ts k v.sm).1.v (Gs fd b (rtF b ts k v.sm).2 rest)) :
    WpC c (n + 6) (.ref 226) (Gs fd b ts rest) [.inst 269 1, .str (Rk.s k), v.v] Φ := by
  cases k with
  | le => exact WpC.room (S_row_truth_le (n := n) t o hs hz h) (by (first | lia | omega))
  | eq => exact WpC.room (S_row_truth_eq (n := n) t o hs hz h) (by (first | lia | omega))
  | ne =>
    refine WpC_def (D_row_truth t) rfl ?_
    unfold bd_row_truth
    dsimp only
    refine WpS_cons ?_
    walk_at "s"
    refine WpE_m (M_row t) (by intro _; with_unfolding_all rfl) (by intro _ _; with_unfolding_all rfl) ?_
    repeat walk_at "e"
    refine ⟨1, _, rfl, rfl, rfl, ?_⟩
    repeat walk_at "e"
    refine S_row t o (k := .ne) hs.x hz hs.len hs.nz hs.bd ?_
    refine WpS_cons (WpX_if ?_)
    walk_at "e"
    refine WpE_isinstance (T := "bool") (.inr rfl) (B_isinstance t) (B_bool t) ?_
    repeat walk_at "e"
    unfold rtF at h
    rw [if_pos rfl] at h
    cases hr : rowF b .ne v.sm with
    | inl r =>
      rw [hr] at h
      refine isiBB ?_
      refine truT rfl ?_
      refine ifT rfl ?_
      refine WpS_cons (WpX_return ?_)
      repeat walk_at "e"
      exact h
    | inr td =>
      rw [hr] at h
      obtain ⟨hd, hp⟩ := rowF_inr hr
      have hk1 : td.1 = Rk.s .ne := by subst hd; rfl
      obtain ⟨kd, cs, xs, cc⟩ := td
      simp only at hk1
      subst hk1
      refine isiBT ?_
      refine truF rfl ?_
      refine ifF rfl ?_
      refine WpS_nil ?_
      refine WpS_cons (WpX_assignT ?_ (by intro env; with_unfolding_all rfl) (by intro env h; cases env; subst h; with_unfolding_all rfl) (by intro env; with_unfolding_all rfl))
      repeat walk_at "e"
      refine ⟨_, asg_4 (by decide +kernel) (by decide +kernel) (by decide +kernel) (by decide +kernel), ?_⟩
      refine WpS_cons (WpX_if ?_)
      repeat walk_at "e"
      refine ⟨s_ne_ok, s_ne_ok, ?_⟩
      refine ifT s_ne_ne ?_
      refine WpS_cons (WpX_return ?_)
      refine WpE_call _ (G_contrary t) (C_contrary t) ?_
      repeat walk_at "e"
      refine WpE_m (M_row_truth t) (by intro _; with_unfolding_all rfl) (by intro _ _; with_unfolding_all rfl) ?_
      repeat walk_at "e"
      refine ⟨1, _, rfl, rfl, rfl, ?_⟩
      repeat walk_at "e"
      refine S_row_truth_eq (n := n) t o hs hz ?_
      repeat walk_at "e"
      refine WpC.room (k := 1) (S_contrary (n := 0) t ?_) (by (first | lia | omega))
      exact h
end

/-! part C9 -/
/-! requiring -/
noncomputable def clauseV (ups downs : List Int) : V := .tup [.str "clause", .tup (ups.map V.int), .tup (downs.map V.int)]
noncomputable def extraR : Sum Bool TK → List V
  | .inl true => []
  | .inl false => [clauseV [] []]
  | .inr t => [toldV t]
theorem eqV_bool (a b : Bool) : eqV (.bool a) (.bool b) = (a == b) := by first | rfl | (show PyData.eqv (.bool a) (.bool b) = _; simp only [PyData.eqv])
theorem eqV_tb (xs : List V) (b : Bool) : eqV (.tup xs) (.bool b) = false := by first | rfl | (show PyData.eqv (.tuple (pys xs)) (.bool b) = _; simp only [PyData.eqv])
theorem isD_told {k : TK} (h : PyData.strOk k.1 = true) : isD 8 (toldV k) = true := by
  have h1 : isDs 6 (k.2.1.map V.int) = true := isDs_all fun x hx => by obtain ⟨p, _, rfl⟩ := List.mem_map.mp hx; first | rfl | simp [isD]
  have h2 : isDs 6 (k.2.2.1.map V.int) = true := isDs_all fun x hx => by obtain ⟨p, _, rfl⟩ := List.mem_map.mp hx; first | rfl | simp [isD]
  show (PyData.strOk k.1 && (isDs 6 (k.2.1.map V.int) && (isDs 6 (k.2.2.1.map V.int) && (true && true)))) = true
  rw [h, h1, h2]; rfl
section
variable {c : Cx} {n : Nat} {fd : O} {b : Base} {ts : List TK} {rest : List O} {σ : List O}
theorem S_require_row (t : Txt c) (o : b.Ok) {k : Rk} {v : Sv} {Φ : V → List O → Prop} (hs : SmOk ts v.sm) (hz : ts.length < 500)
    (h : Φ .none (St fd (varsV b (3 + ts.length)) (toldsV ts ++ extraR (rowF b k v.sm)) (madeV ts) rest)) :
    WpC c (n + 5) (.ref 266) (Gs fd b ts rest) [.inst 269 1, .str (Rk.s k), v.v] Φ := by
  refine WpC_def (D_require_row t) rfl ?_
  unfold bd_require_row
  dsimp only
  refine WpS_cons ?_
  walk_at "s"
  refine WpE_m (M_row t) (by intro _; with_unfolding_all rfl) (by intro _ _; with_unfolding_all rfl) ?_
  repeat walk_at "e"
  refine ⟨1, _, rfl, rfl, rfl, ?_⟩
  repeat walk_at "e"
  refine S_row t o (k := k) hs.x hz hs.len hs.nz hs.bd ?_
  refine WpS_cons (WpX_if ?_)
  repeat walk_at "e"
  have htz : (toldsV ts).length < 1000 := by unfold toldsV; rw [List.length_map, List.length_zipIdx]; (first | lia | omega)
  cases hr : rowF b k v.sm with
  | inl r =>
    rw [hr] at h
    refine ⟨by rfl, by rfl, ?_⟩
    cases r with
    | false =>
      refine ifT (show eqV (.bool false) (.bool false) = true by rw [eqV_bool]; rfl) ?_
      refine WpS_cons (WpX_expr ?_ (by intro env h; simp only [interactive, h]; decide +kernel) (by intro _; with_unfolding_all rfl))
      refine WpE_m (M_post t) (by intro _; with_unfolding_all rfl) (by intro _ _; with_unfolding_all rfl) ?_
      refine WpE_attr (A_flat t) ?_ (by intro _; with_unfolding_all rfl)
      repeat walk_at "e"
      refine ⟨1, _, .inst 80 2, rfl, rfl, rfl, ?_⟩
      refine ⟨2, _, rfl, rfl, rfl, ?_⟩
      repeat walk_at "e"
      refine S_post t htz ?_
      refine ⟨trivial, ?_⟩
      repeat refine WpS_nil ?_
      exact h
    | true =>
      refine ifF (show eqV (.bool true) (.bool false) = false by rw [eqV_bool]; rfl) ?_
      refine WpS_cons (WpX_if ?_)
      repeat walk_at "e"
      refine ⟨by rfl, by rfl, ?_⟩
      refine ifF (show (!eqV (.bool true) (.bool true)) = false by rw [eqV_bool]; rfl) ?_
      repeat refine WpS_nil ?_
      simp only [extraR, List.append_nil] at h
      exact h
  | inr td =>
    rw [hr] at h
    obtain ⟨hd, hp⟩ := rowF_inr hr
    have hk1 : PyData.strOk td.1 = true := by subst hd; exact k.ok
    refine ⟨isD_told hk1, by rfl, ?_⟩
    refine ifF (eqV_tb _ _) ?_
    refine WpS_cons (WpX_if ?_)
    repeat walk_at "e"
    refine ⟨isD_told hk1, by rfl, ?_⟩
    refine ifT (show (!eqV (toldV td) (.bool true)) = true by rw [show eqV (toldV td) (.bool true) = false from eqV_tb _ _]; rfl) ?_
    refine WpS_cons (WpX_expr ?_ (by intro env h; simp only [interactive, h]; decide +kernel) (by intro _; with_unfolding_all rfl))
    refine WpE_m (M_post t) (by intro _; with_unfolding_all rfl) (by intro _ _; with_unfolding_all rfl) ?_
    refine WpE_attr (A_flat t) ?_ (by intro _; with_unfolding_all rfl)
    repeat walk_at "e"
    refine ⟨1, _, .inst 80 2, rfl, rfl, rfl, ?_⟩
    refine ⟨2, _, rfl, rfl, rfl, ?_⟩
    repeat walk_at "e"
    refine S_post t htz ?_
    refine ⟨trivial, ?_⟩
    repeat refine WpS_nil ?_
    exact h

/-! the makers -/
theorem S_Flat (t : Txt c) {Φ : V → List O → Prop} (h : Φ (.inst 80 2) [fd, .sdict [], Fd, .list [], .list []]) : WpC c (n + 2) (.ref 80) [fd, .sdict []] [] Φ := by
  refine WpC_make (MK_Flat t) (WpK_def (D_Flat_init t) rfl ?_)
  unfold bd_Flat_init
  dsimp only
  refine WpS_cons (WpX_setattr (S_vars t) ?_ (by intro _; with_unfolding_all rfl))
  refine WpE_listT ?_ (by rfl) (by intro _ _; with_unfolding_all rfl)
  repeat walk_at "e"
  refine ⟨2, _, rfl, rfl, rfl, by simp, ?_⟩
  refine WpS_cons (WpX_setattr (S_tolds t) ?_ (by intro _; with_unfolding_all rfl))
  refine WpE_listT ?_ (by rfl) (by intro _ _; with_unfolding_all rfl)
  repeat walk_at "e"
  refine ⟨2, _, rfl, rfl, rfl, by simp, ?_⟩
  refine WpS_cons (WpX_setattr (S_goal t) ?_ (by intro _; with_unfolding_all rfl))
  repeat walk_at "e"
  refine ⟨2, _, rfl, rfl, rfl, by simp, ?_⟩
  refine WpS_cons (WpX_setattr (S_shown t) ?_ (by intro _; with_unfolding_all rfl))
  repeat walk_at "e"
  refine ⟨2, _, rfl, rfl, rfl, by simp, ?_⟩
  refine WpS_nil ?_
  exact ⟨rfl, _, rfl, h⟩
theorem S_Gatherer (t : Txt c) {Φ : V → List O → Prop} (h : Φ (.inst 269 1) (St fd [] [] [] [])) : WpC c (n + 4) (.ref 269) [fd] [] Φ := by
  refine WpC_make (MK_Gat t) (WpK_def (D_Gat_init t) rfl ?_)
  unfold bd_Gat_init
  dsimp only
  refine WpS_cons (WpX_setattr (S_flat t) ?_ (by intro _; with_unfolding_all rfl))
  refine WpE_call _ (G_Flat t) (C_Flat t) ?_
  repeat walk_at "e"
  refine S_Flat t ?_
  repeat walk_at "e"
  refine ⟨1, _, rfl, rfl, rfl, by simp, ?_⟩
  refine WpS_cons (WpX_setattr (S_made t) ?_ (by intro _; with_unfolding_all rfl))
  refine WpE_dict0 2 ?_
  repeat walk_at "e"
  refine ⟨1, _, rfl, rfl, rfl, by simp, ?_⟩
  refine WpS_nil ?_
  exact ⟨rfl, _, rfl, h⟩

/-! the draws -/
noncomputable def fdO (ns : List Int) (k : Int) : O := .sdict [("cells", .lst (ns.map V.int)), ("spot", .int k)]
theorem S_next (t : Txt c) {ns : List Int} {k M : Int} {Φ : V → List O → Prop} (h0 : 0 ≤ k) (h1 : k < 2 ^ 40) (hn : ns.length < 1000) (hM : 0 < M) (h : ∀ r, 0 ≤ r → r < M → Φ (.int r) (fdO ns (k + 1) :: rest)) : WpC c (n + 1) (.ref 280) (fdO ns k :: rest) [.ref 0, .int M] Φ := by
  refine WpC_def (D_law_next t) rfl ?_
  unfold bd_law_next
  dsimp only
  have fin : ∀ x : Int, Φ (.int (x.fmod M)) (fdO ns (k + 1) :: rest) := fun x => h _ (Int.fmod_nonneg_of_pos x hM) (Int.fmod_lt_of_pos x hM)
  refine WpS_cons ?_
  walk_at "s"
  repeat walk_at "e"
  refine subOk_s (es := [("cells", .lst (ns.map V.int)), ("spot", .int k)]) rfl (v := .int k) rfl ?_
  refine WpS_cons (WpX_setitem ?_ (by intro _; with_unfolding_all rfl))
  repeat walk_at "e"
  show WpE _ _ _ _ _ _ _
  repeat walk_at "e"
  refine setOk_s (es := [("cells", .lst (ns.map V.int)), ("spot", .int k)]) rfl (by simp) ?_
  show WpS c n _ _ (fdO ns (k + 1) :: rest) _ _
  refine WpS_cons (WpX_return ?_)
  repeat walk_at "e"
  refine WpE_call _ (B_len t) trivial ?_
  repeat walk_at "e"
  refine subOk_s (es := [("cells", .lst (ns.map V.int)), ("spot", .int (k + 1))]) rfl (v := .lst (ns.map V.int)) rfl ?_
  repeat walk_at "e"
  refine WpC_len (k := ns.length) (by show some (ns.map V.int).length = _; rw [List.length_map]) (by (first | lia | omega)) ?_
  by_cases hk : k < (ns.length : Int)
  · refine ifT (decide_eq_true hk) ?_
    repeat walk_at "e"
    refine subOk_s (es := [("cells", .lst (ns.map V.int)), ("spot", .int (k + 1))]) rfl (v := .lst (ns.map V.int)) rfl ?_
    repeat walk_at "e"
    obtain ⟨x, hx⟩ : ∃ x, ns[k.toNat]? = some x := ⟨_, List.getElem?_eq_getElem (by (first | lia | omega))⟩
    refine ⟨⟨h0, by (first | lia | omega)⟩, .int x, by unfold pyIdx; rw [if_pos h0, List.getElem?_map, hx]; rfl, ?_⟩
    repeat walk_at "e"
    exact ⟨by (first | lia | omega), fin x⟩
  · refine ifF (decide_eq_false hk) ?_
    repeat walk_at "e"
    refine ⟨.inl (by decide +kernel), ?_⟩
    show WpE _ _ _ _ _ _ _
    repeat walk_at "e"
    refine ⟨by decide, by decide +kernel, ?_⟩
    show WpE _ _ _ _ _ _ _
    repeat walk_at "e"
    show WpE _ _ _ _ _ _ _
    refine WpE_call _ (B_len t) trivial ?_
    repeat walk_at "e"
    refine subOk_s (es := [("cells", .lst (ns.map V.int)), ("spot", .int (k + 1))]) rfl (v := .lst (ns.map V.int)) rfl ?_
    repeat walk_at "e"
    refine WpC_len (k := ns.length) (by show some (ns.map V.int).length = _; rw [List.length_map]) (by (first | lia | omega)) ?_
    show WpE _ _ _ _ _ _ _
    repeat walk_at "e"
    exact ⟨by (first | lia | omega), fin _⟩
end

/-! part C10 -/
/-! what is told, and whether a row keeps it -/
inductive Td where
  | lin (t : TK)
  | clause (u d : List Int)
  | reif (i : Int) (t : TK)
noncomputable def Td.v : Td → V
  | .lin t => toldV t
  | .clause u d => clauseV u d
  | .reif i t => .tup [.str "reif", .int i, toldV t]
noncomputable def Td.about : Td → List Int
  | .lin t => t.2.2.1
  | .clause u d => u ++ d
  | .reif i t => i :: t.2.2.1
noncomputable def IsK (k : Str) : Prop := ∃ r : Rk, k = r.s
noncomputable def Td.ok : Td → Prop
  | .lin t => IsK t.1 ∧ t.2.1.length = t.2.2.1.length
  | .clause _ _ => True
  | .reif _ t => IsK t.1 ∧ t.2.1.length = t.2.2.1.length
theorem head_lin (r : Rk) : eqV (.str (Txt.slice r.s none (some 6))) (.str "linear") = true := by cases r <;> decide +kernel
theorem head_clause : eqV (.str (Txt.slice "clause" none (some 6))) (.str "linear") = false := by decide +kernel
theorem head_reif : eqV (.str (Txt.slice "reif" none (some 6))) (.str "linear") = false := by decide +kernel
theorem ok_slice (r : Rk) : PyData.strOk (Txt.slice r.s none (some 6)) = true := by cases r <;> decide +kernel
theorem ok_clause : PyData.strOk (Txt.slice "clause" none (some 6)) = true := by decide +kernel
theorem ok_reif : PyData.strOk (Txt.slice "reif" none (some 6)) = true := by decide +kernel
theorem ok_lin : PyData.strOk "linear" = true := by decide +kernel
theorem ok_c : PyData.strOk "clause" = true := by decide +kernel
theorem ok_r : PyData.strOk "reif" = true := by decide +kernel
theorem rk_len (r : Rk) : r.s.length ≤ 1000000 := by cases r <;> decide +kernel
theorem c_c : eqV (.str "clause") (.str "clause") = true := by decide +kernel
theorem r_c : eqV (.str "reif") (.str "clause") = false := by decide +kernel
theorem c_r : eqV (.str "clause") (.str "reif") = false := by decide +kernel
theorem r_r : eqV (.str "reif") (.str "reif") = true := by decide +kernel
theorem k_r (r : Rk) : eqV (.str r.s) (.str "reif") = false := by cases r <;> decide +kernel
theorem k_c (r : Rk) : eqV (.str r.s) (.str "clause") = false := by cases r <;> decide +kernel

section
variable {c : Cx} {n : Nat} {σ : List O}
theorem S_about (t : Txt c) {d : Td} {Φ : V → List O → Prop} (hd : d.ok) (hz : d.about.length < 1000) (h : Φ (.tup (d.about.map V.int)) σ) : WpC c (n + 1) (.ref 287) σ [d.v] Φ := by
  refine WpC_def (D_law_about t) rfl ?_
  unfold bd_law_about
  dsimp only
  refine WpS_cons (WpX_if ?_)
  walk_at "e"
  refine WpE_takeS ?_ (by intro _ _ _; with_unfolding_all rfl)
  repeat walk_at "e"
  cases d with
  | lin k =>
    obtain ⟨kd, cs, xs, cc⟩ := k
    obtain ⟨⟨r, hr⟩, _⟩ := hd
    simp only at hr
    subst hr
    refine ⟨by decide, _, rfl, r.s, rfl, rk_len r, ?_⟩
    repeat walk_at "e"
    refine ⟨ok_slice r, ok_lin, ?_⟩
    refine ifT (head_lin r) ?_
    refine WpS_cons (WpX_return ?_)
    repeat walk_at "e"
    refine ⟨by decide, _, rfl, ?_⟩
    exact h
  | clause u d =>
    refine ⟨by decide, _, rfl, "clause", rfl, by decide +kernel, ?_⟩
    repeat walk_at "e"
    refine ⟨ok_clause, ok_lin, ?_⟩
    refine ifF head_clause ?_
    refine WpS_nil ?_
    refine WpS_cons (WpX_return ?_)
    repeat walk_at "e"
    refine ⟨by decide, _, rfl, ?_⟩
    repeat walk_at "e"
    refine ⟨ok_c, ok_c, ?_⟩
    refine ifT c_c ?_
    repeat walk_at "e"
    refine ⟨by decide, _, rfl, ?_⟩
    repeat walk_at "e"
    refine ⟨by decide, _, rfl, ?_⟩
    refine ⟨by rw [List.length_map, List.length_map]; unfold sizeLine; simp [Td.about] at hz; (first | lia | omega), ?_⟩
    simp only [Td.about, List.map_append] at h
    exact h
  | reif i k =>
    refine ⟨by decide, _, rfl, "reif", rfl, by decide +kernel, ?_⟩
    repeat walk_at "e"
    refine ⟨ok_reif, ok_lin, ?_⟩
    refine ifF head_reif ?_
    refine WpS_nil ?_
    refine WpS_cons (WpX_return ?_)
    repeat walk_at "e"
    refine ⟨by decide, _, rfl, ?_⟩
    repeat walk_at "e"
    refine ⟨ok_r, ok_c, ?_⟩
    refine ifF r_c ?_
    repeat walk_at "e"
    refine ⟨by decide, _, rfl, ?_⟩
    show WpEs _ _ _ _ _ _ _
    repeat walk_at "e"
    refine ⟨by decide, _, rfl, ?_⟩
    repeat walk_at "e"
    refine ⟨by decide, _, rfl, ?_⟩
    refine ⟨by simp [Td.about] at hz ⊢; unfold sizeLine; (first | lia | omega), ?_⟩
    exact h

/-- the values at some places -/
noncomputable def atP (vals : List Int) (x : Int) : Int := (vals[x.toNat]?).getD 0
noncomputable def linS (cs xs : List Int) (vals : List Int) : Int := (List.zipWith (fun a x => a * atP vals x) cs xs).sum
noncomputable def linH (t : TK) (vals : List Int) : Bool := if t.1 = Rk.s .le then decide (linS t.2.1 t.2.2.1 vals ≤ t.2.2.2) else (decide (linS t.2.1 t.2.2.1 vals = t.2.2.2) == kindOf_ t.1)
noncomputable def Td.holds (vals : List Int) : Td → Bool
  | .lin t => linH t vals
  | .clause u d => u.any (fun x => decide (atP vals x = 1)) || d.any (fun x => decide (atP vals x = 0))
  | .reif i t => linH t vals == decide (atP vals i = 1)
structure RowOk (vals : List Int) (xs : List Int) : Prop where
  x : ∀ x ∈ xs, 0 ≤ x ∧ x < vals.length
  v : ∀ v ∈ vals, -100 ≤ v ∧ v ≤ 100
  l : vals.length < 1000
  n : xs.length < 1000
theorem RowOk.at {vals xs : List Int} (h : RowOk vals xs) {x : Int} (hx : x ∈ xs) : pyIdx (vals.map V.int) x = some (.int (atP vals x)) ∧ (0 ≤ x ∧ x < 2 ^ 63) ∧ -100 ≤ atP vals x ∧ atP vals x ≤ 100 := by
  obtain ⟨h1, h2⟩ := h.x x hx
  have hl := h.l
  have e : vals[x.toNat]? = some (vals[x.toNat]'(by (first | lia | omega))) := List.getElem?_eq_getElem (by (first | lia | omega))
  refine ⟨?_, ⟨h1, by (first | lia | omega)⟩, ?_⟩
  · unfold pyIdx atP
    rw [if_pos h1, List.getElem?_map, e]; rfl
  · unfold atP
    rw [e]
    exact h.v _ (List.getElem_mem _)

theorem linS_eq : ∀ (cs xs : List Int) (vals : List Int), ((pairs2 (cs.map V.int) (xs.map V.int)).map fun w => match w with | .tup [.int a, .int x] => V.int (a * atP vals x) | _ => .none) = (List.zipWith (fun a x => a * atP vals x) cs xs).map V.int
  | [], _, _ => by simp [pairs2]
  | _ :: _, [], _ => by simp [pairs2]
  | a :: cs, x :: xs, vals => by
    simp only [List.map_cons, pairs2, List.zipWith_cons_cons, linS_eq cs xs vals]
theorem pairs2_mem : ∀ {cs xs : List Int} {w : V}, w ∈ pairs2 (cs.map V.int) (xs.map V.int) → ∃ a ∈ cs, ∃ x ∈ xs, w = .tup [.int a, .int x]
  | [], _, _, h => by simp [pairs2] at h
  | _ :: _, [], _, h => by simp [pairs2] at h
  | a :: cs, x :: xs, w, h => by
    simp only [List.map_cons, pairs2, List.mem_cons] at h
    rcases h with rfl | h
    · exact ⟨a, List.mem_cons_self, x, List.mem_cons_self, rfl⟩
    · obtain ⟨a', h1, x', h2, h3⟩ := pairs2_mem h
      exact ⟨a', List.mem_cons_of_mem _ h1, x', List.mem_cons_of_mem _ h2, h3⟩
theorem pairs2_len : ∀ (us vs : List V), (pairs2 us vs).length ≤ us.length
  | [], _ => by simp [pairs2]
  | _ :: _, [] => by simp [pairs2]
  | _ :: us, _ :: vs => by simp only [pairs2, List.length_cons]; have := pairs2_len us vs; (first | lia | omega)

/-- the sum of a told row -/
theorem S_holds_lin (t : Txt c) {k : TK} {vals : List Int} {Φ : V → List O → Prop} (hk : IsK k.1) (hl : k.2.1.length = k.2.2.1.length) (hr : RowOk vals k.2.2.1) (h : Φ (.bool (linH k vals)) σ) : WpC c (n + 1) (.ref 292) σ [toldV k, .lst (vals.map V.int)] Φ := by
  obtain ⟨kd, cs, xs, cc⟩ := k
  obtain ⟨r, hk⟩ := hk
  simp only at hk hl hr
  subst hk
  refine WpC_def (D_law_holds t) rfl ?_
  unfold bd_law_holds
  dsimp only
  refine WpS_cons (WpX_if ?_)
  repeat walk_at "e"
  refine ⟨by decide, _, rfl, ?_⟩
  repeat walk_at "e"
  refine ⟨r.ok, ok_r, ?_⟩
  refine ifF (k_r r) ?_
  refine WpS_nil ?_
  refine WpS_cons (WpX_if ?_)
  repeat walk_at "e"
  refine ⟨by decide, _, rfl, ?_⟩
  repeat walk_at "e"
  refine ⟨r.ok, ok_c, ?_⟩
  refine ifF (k_c r) ?_
  refine WpS_nil ?_
  refine WpS_cons ?_
  walk_at "s"
  refine WpE_call _ (B_sum t) trivial ?_
  repeat walk_at "e"
  refine WpE_compZ ⟨rfl, by decide +kernel, by decide +kernel, by decide +kernel⟩ (by decide +kernel) (B_zip t) ?_ (by intro _ _; with_unfolding_all rfl)
  repeat walk_at "e"
  refine ⟨by decide, _, rfl, ?_⟩
  refine ⟨rfl, ?_⟩
  repeat walk_at "e"
  refine ⟨by decide, _, rfl, ?_⟩
  refine ⟨rfl, cs.map V.int, xs.map V.int, rfl, rfl, ?_⟩
  have hn := hr.n
  have pl := pairs2_len (cs.map V.int) (xs.map V.int)
  rw [List.length_map] at pl
  refine lvGo_map (fun _ => true) (fun w => match w with | .tup [.int a, .int x] => V.int (a * atP vals x) | _ => .none) (fun m' => m' "row" = some (.lst (vals.map V.int))) _ _ _ rfl (by simp; (first | lia | omega)) ?_ ?_
  · intro w hw m' acc hm'
    obtain ⟨a, ha, x, hx, rfl⟩ := pairs2_mem hw
    obtain ⟨a1, a2, a3⟩ := hr.at hx
    refine ⟨_, asg_pair (.inl (by decide +kernel)) (.inl (by decide +kernel)), hm', rfl, fun _ => ?_⟩
    repeat walk_at "e"
    refine ⟨a2, _, a1, ?_⟩
    refine ⟨.inr (bits_small a3), ?_⟩
    exact ⟨rfl, rfl⟩
  intro m'
  rw [List.nil_append, filt_true, linS_eq]
  refine ⟨rbs_all fun x hx => by obtain ⟨p, _, rfl⟩ := List.mem_map.mp hx; first | rfl | simp [rb], ?_⟩
  refine WpEs_nil ?_
  refine WpC_sumL ?_
  show WpS _ _ _ _ _ _ _
  refine WpS_cons (WpX_return ?_)
  repeat walk_at "e"
  refine ⟨by decide, _, rfl, ?_⟩
  repeat walk_at "e"
  refine ⟨r.ok, s_le_ok, ?_⟩
  cases r with
  | le =>
    refine ifT s_le_le ?_
    repeat walk_at "e"
    refine ⟨by decide, _, rfl, ?_⟩
    have : linH (Rk.s .le, cs, xs, cc) vals = decide ((List.zipWith (fun a x => a * atP vals x) cs xs).sum ≤ cc) := if_pos rfl
    rw [this] at h
    exact h
  | eq =>
    refine ifF s_eq_le ?_
    repeat walk_at "e"
    refine ⟨by decide, _, rfl, ?_⟩
    refine ⟨by rfl, by rfl, ?_⟩
    repeat walk_at "e"
    refine ⟨by decide, _, rfl, ?_⟩
    repeat walk_at "e"
    refine ⟨s_eq_ok, s_eq_ok, ?_⟩
    refine ⟨by rfl, by rfl, ?_⟩
    have : linH (Rk.s .eq, cs, xs, cc) vals = (decide ((List.zipWith (fun a x => a * atP vals x) cs xs).sum = cc) == eqV (.str (Rk.s .eq)) (.str "linear_eq")) := if_neg (show ¬ Rk.s .eq = Rk.s .le by decide +kernel)
    rw [this] at h
    rw [eqV_bool, eqV_int]
    exact h
  | ne =>
    refine ifF s_ne_le ?_
    repeat walk_at "e"
    refine ⟨by decide, _, rfl, ?_⟩
    refine ⟨by rfl, by rfl, ?_⟩
    repeat walk_at "e"
    refine ⟨by decide, _, rfl, ?_⟩
    repeat walk_at "e"
    refine ⟨s_ne_ok, s_eq_ok, ?_⟩
    refine ⟨by rfl, by rfl, ?_⟩
    have : linH (Rk.s .ne, cs, xs, cc) vals = (decide ((List.zipWith (fun a x => a * atP vals x) cs xs).sum = cc) == eqV (.str (Rk.s .ne)) (.str "linear_eq")) := if_neg (show ¬ Rk.s .ne = Rk.s .le by decide +kernel)
    rw [this] at h
    rw [eqV_bool, eqV_int]
    exact h

theorem any_in (l : List Int) (vals : List Int) (k : Int) : ((l.map ((fun w => match w with | .int x => V.int (atP vals x) | _ => .none) ∘ V.int)).any fun y => eqV y (.int k)) = l.any fun x => decide (atP vals x = k) := by
  rw [List.any_map]
  have : ((fun y => eqV y (.int k)) ∘ ((fun w => match w with | .int x => V.int (atP vals x) | _ => .none) ∘ V.int)) = fun x => decide (atP vals x = k) := by
    funext x
    exact eqV_int _ _
  rw [this]
theorem isDs_int (l : List Int) (vals : List Int) : isDs 8 (l.map ((fun w => match w with | .int x => V.int (atP vals x) | _ => .none) ∘ V.int)) = true :=
  isDs_all fun x hx => by obtain ⟨p, _, rfl⟩ := List.mem_map.mp hx; first | rfl | simp [isD]
theorem S_holds (t : Txt c) {d : Td} {vals : List Int} {Φ : V → List O → Prop} (hd : d.ok) (hr : RowOk vals d.about) (h : Φ (.bool (d.holds vals)) σ) : WpC c (n + 2) (.ref 292) σ [d.v, .lst (vals.map V.int)] Φ := by
  cases d with
  | lin k => exact WpC.room (S_holds_lin (n := n) t hd.1 hd.2 hr h) (by (first | lia | omega))
  | reif i k =>
    refine WpC_def (D_law_holds t) rfl ?_
    unfold bd_law_holds
    dsimp only
    refine WpS_cons (WpX_if ?_)
    repeat walk_at "e"
    refine ⟨by decide, _, rfl, ?_⟩
    repeat walk_at "e"
    refine ⟨ok_r, ok_r, ?_⟩
    refine ifT r_r ?_
    refine WpS_cons (WpX_return ?_)
    repeat walk_at "e"
    refine WpE_call _ (G_law_holds t) (C_law_holds t) ?_
    repeat walk_at "e"
    refine ⟨by decide, _, rfl, ?_⟩
    repeat walk_at "e"
    refine S_holds_lin t hd.1 hd.2 ⟨fun x hx => hr.x x (List.mem_cons_of_mem _ hx), hr.v, hr.l, by have := hr.n; simp [Td.about] at this; (first | lia | omega)⟩ ?_
    repeat walk_at "e"
    refine ⟨by decide, _, rfl, ?_⟩
    obtain ⟨a1, a2, a3⟩ := hr.at (x := i) List.mem_cons_self
    refine ⟨a2, _, a1, ?_⟩
    repeat walk_at "e"
    refine ⟨by rfl, by rfl, ?_⟩
    refine ⟨by rfl, by rfl, ?_⟩
    rw [eqV_bool, eqV_int]
    exact h
  | clause u dn =>
    refine WpC_def (D_law_holds t) rfl ?_
    unfold bd_law_holds
    dsimp only
    refine WpS_cons (WpX_if ?_)
    repeat walk_at "e"
    refine ⟨by decide, _, rfl, ?_⟩
    repeat walk_at "e"
    refine ⟨ok_c, ok_r, ?_⟩
    refine ifF c_r ?_
    refine WpS_nil ?_
    refine WpS_cons (WpX_if ?_)
    repeat walk_at "e"
    refine ⟨by decide, _, rfl, ?_⟩
    repeat walk_at "e"
    refine ⟨ok_c, ok_c, ?_⟩
    refine ifT c_c ?_
    refine WpS_cons (WpX_return ?_)
    repeat walk_at "e"
    refine WpE_comp1 ⟨rfl, by decide +kernel, by decide +kernel, by decide +kernel⟩ (by decide +kernel) ?_ (by intro _ _; with_unfolding_all rfl)
    repeat walk_at "e"
    refine ⟨by decide, _, rfl, ?_⟩
    refine ⟨rfl, ?_⟩
    refine lvGo_map (fun _ => true) (fun w => match w with | .int x => V.int (atP vals x) | _ => .none) (fun m' => m' "row" = some (.lst (vals.map V.int))) _ _ _ rfl (by simp; have := hr.n; simp [Td.about] at this; (first | lia | omega)) ?_ ?_
    · intro w hw m' acc hm'
      obtain ⟨x, hx, rfl⟩ := List.mem_map.mp hw
      obtain ⟨a1, a2, a3⟩ := hr.at (x := x) (by simp [Td.about]; exact .inl hx)
      refine ⟨_, asg_name (.inl (by decide +kernel)), hm', rfl, fun _ => ?_⟩
      repeat walk_at "e"
      refine ⟨a2, _, a1, ?_⟩
      exact ⟨rfl, rfl⟩
    intro m'
    rw [List.nil_append, filt_true, List.map_map]
    refine ⟨rbs_all fun x hx => by obtain ⟨p, _, rfl⟩ := List.mem_map.mp hx; first | rfl | simp [rb], ?_⟩
    refine ⟨by rfl, isDs_int u vals, ?_⟩
    dsimp -proj -zeta -iota only
    rw [any_in]
    show TruOk (.bool (u.any fun x => decide (atP vals x = 1))) _
    have hh : Td.holds vals (.clause u dn) = (u.any (fun x => decide (atP vals x = 1)) || dn.any (fun x => decide (atP vals x = 0))) := rfl
    rw [hh] at h
    cases hu : u.any fun x => decide (atP vals x = 1) with
    | true =>
      rw [hu] at h
      refine truT rfl ?_
      refine ifT rfl ?_
      exact h
    | false =>
    rw [hu] at h
    refine truF rfl ?_
    refine ifF rfl ?_
    repeat walk_at "e"
    refine WpE_comp1 ⟨rfl, by decide +kernel, by decide +kernel, by decide +kernel⟩ (by decide +kernel) ?_ (by intro _ _; with_unfolding_all rfl)
    repeat walk_at "e"
    refine ⟨by decide, _, rfl, ?_⟩
    refine ⟨rfl, ?_⟩
    refine lvGo_map (fun _ => true) (fun w => match w with | .int x => V.int (atP vals x) | _ => .none) (fun m' => m' "row" = some (.lst (vals.map V.int))) _ _ _ rfl (by simp; have := hr.n; simp [Td.about] at this; (first | lia | omega)) ?_ ?_
    · intro w hw m' acc hm'
      obtain ⟨x, hx, rfl⟩ := List.mem_map.mp hw
      obtain ⟨a1, a2, a3⟩ := hr.at (x := x) (by simp [Td.about]; exact .inr hx)
      refine ⟨_, asg_name (.inl (by decide +kernel)), hm', rfl, fun _ => ?_⟩
      repeat walk_at "e"
      refine ⟨a2, _, a1, ?_⟩
      exact ⟨rfl, rfl⟩
    intro m'
    rw [List.nil_append, filt_true, List.map_map]
    refine ⟨rbs_all fun x hx => by obtain ⟨p, _, rfl⟩ := List.mem_map.mp hx; first | rfl | simp [rb], ?_⟩
    refine ⟨by rfl, isDs_int dn vals, ?_⟩
    dsimp -proj -zeta -iota only
    rw [any_in]
    exact h
end

/-! part C11 -/
/-! counting -/
noncomputable def lineV (r : List Int) : V := .lst (r.map V.int)
theorem rangeV_nil {a b : Int} (h : b ≤ a) : rangeV a b = [] := by
  have e : (b - a).toNat = 0 := by (first | lia | omega)
  unfold rangeV
  rw [e]; rfl
theorem rangeV_cons {a b : Int} (h : a < b) : rangeV a b = V.int a :: rangeV (a + 1) b := by
  unfold rangeV
  obtain ⟨k, hk⟩ : ∃ k : Nat, (b - a).toNat = k + 1 := ⟨(b - a).toNat - 1, by (first | lia | omega)⟩
  have hk' : (b - (a + 1)).toNat = k := by (first | lia | omega)
  rw [hk, hk', List.range_succ_eq_map, List.map_cons, List.map_map]
  congr 1
  · simp
  · refine List.map_congr_left fun j _ => ?_
    show V.int (a + ((j + 1 : Nat) : Int)) = V.int (a + 1 + (j : Int))
    congr 1; (first | lia | omega)
noncomputable def stepRows (G : Int → List Td) (p : Nat) (rows : List (List Int)) : List (List Int) :=
  rows.flatMap fun one => (([0, 1] : List Int).filter fun w => (G p).all fun d => d.holds (one ++ [w])).map fun w => one ++ [w]
noncomputable def rowsTo (G : Int → List Td) (row : List Int) : Nat → List (List Int)
  | 0 => [row]
  | k + 1 => stepRows G (3 + k) (rowsTo G row k)
noncomputable def early : List Int := [-1, 0, 1, 2]
noncomputable def manyF (G : Int → List Td) (row : List Int) (k : Nat) : Int :=
  if (early.flatMap G).all (fun d => d.holds row) then ((rowsTo G row k).length : Int) else 0
noncomputable def LateOk (σ : List O) (es : List (Int × V)) (G : Int → List Td) : Prop :=
  ∀ (place : Int) (ρ : List O) (k : List V → Option (Nat × List V) → Prop), (∀ tr, (∀ ρ', TrOk (σ ++ ρ') tr) → k ((G place).map Td.v) tr) → ItemsOk (σ ++ ρ) ((getK es place).getD (.lst [])) k
structure Small (vals : List Int) : Prop where
  v : ∀ v ∈ vals, -100 ≤ v ∧ v ≤ 100
theorem bb {a b : Bool} (h1 : a = true) (h2 : b = true) : (a && b) = true := by rw [h1, h2]; rfl
theorem isD_td {d : Td} (h : d.ok) : isD 7 d.v = true := by
  have hin : ∀ (l : List Int) (n : Nat), isDs n (l.map V.int) = true := fun l n => isDs_all fun x hx => by
    obtain ⟨p, _, rfl⟩ := List.mem_map.mp hx
    cases n <;> rfl
  cases d with
  | lin t =>
    obtain ⟨⟨r, hr⟩, _⟩ := h
    have h1 : PyData.strOk t.1 = true := by rw [hr]; exact r.ok
    obtain ⟨n, l1, l2, k⟩ := t
    exact bb h1 (bb (hin l1 5) (bb (hin l2 5) rfl))
  | clause u d => exact bb (show PyData.strOk "clause" = true by decide +kernel) (bb (hin u 5) (bb (hin d 5) rfl))
  | reif i t =>
    obtain ⟨⟨r, hr⟩, _⟩ := h
    have h1 : PyData.strOk t.1 = true := by rw [hr]; exact r.ok
    obtain ⟨n, l1, l2, k⟩ := t
    exact bb (show PyData.strOk "reif" = true by decide +kernel) (bb rfl (bb (bb h1 (bb (hin l1 4) (bb (hin l2 4) rfl))) rfl))
theorem eqV_lst_nil {xs : List V} : eqV (.lst xs) (.lst []) = xs.isEmpty := by
  cases xs with
  | nil => rfl
  | cons x xs => first | rfl | (show PyData.eqv (.list (py x :: pys xs)) (.list []) = _; unfold PyData.eqv; simp [PyData.eqvAll])
theorem none_left (l : List Td) (r : Td → Bool) : (([] : List V) ++ (l.filter fun d => !r d).map Td.v).isEmpty = l.all r := by
  induction l with
  | nil => rfl
  | cons d l ih =>
    rw [List.all_cons]
    cases hr : r d with
    | true => rw [List.filter_cons_of_neg (by simp [hr])]; simpa using ih
    | false => rw [List.filter_cons_of_pos (by simp [hr])]; simp
theorem rb_td {k : Nat} (d : Td) : rb k d.v = true := by
  have hin : ∀ (l : List Int), rbs k (l.map V.int) = true := fun l => rbs_all fun x hx => by obtain ⟨p, _, rfl⟩ := List.mem_map.mp hx; first | rfl | simp [rb]
  cases d with
  | lin t => exact bb (hin _) (bb (hin _) rfl)
  | clause u d => exact bb (hin _) (bb (hin _) rfl)
  | reif i t => exact bb (bb (hin _) (bb (hin _) rfl)) rfl
theorem dom_ge (b : Base) {p : Nat} (h : 3 ≤ p) : b.dom p = [(0, 1)] := by
  obtain ⟨q, rfl⟩ : ∃ q, p = q + 3 := ⟨p - 3, by (first | lia | omega)⟩
  rfl
noncomputable def grow1 (G : Int → List Td) (p : Nat) (one : List Int) (ws : List Int) : List (List Int) := (ws.filter fun w => (G p).all fun d => d.holds (one ++ [w])).map fun w => one ++ [w]
theorem stepRows_snoc (G : Int → List Td) (p : Nat) (done : List (List Int)) (one : List Int) : stepRows G p (done ++ [one]) = stepRows G p done ++ grow1 G p one [0, 1] := by
  unfold stepRows grow1
  rw [List.flatMap_append]; simp
theorem stepRows_len (G : Int → List Td) (p : Nat) : ∀ rows : List (List Int), (stepRows G p rows).length ≤ 2 * rows.length
  | [] => by simp [stepRows]
  | one :: rows => by
    have ih := stepRows_len G p rows
    have h1 : ((([0, 1] : List Int).filter fun w => (G p).all fun d => d.holds (one ++ [w])).map fun w => one ++ [w]).length ≤ 2 := by
      rw [List.length_map]; exact List.length_filter_le _ _
    unfold stepRows at ih ⊢
    rw [List.flatMap_cons, List.length_append, List.length_cons]
    (first | lia | omega)
theorem rowsTo_mem (G : Int → List Td) {row : List Int} (hrow : row.length = 3) (hsm : Small row) : ∀ k, ∀ one ∈ rowsTo G row k, one.length = 3 + k ∧ Small one
  | 0, one, h => by
    have : one = row := by simpa [rowsTo] using h
    subst this; exact ⟨hrow, hsm⟩
  | k + 1, one, h => by
    unfold rowsTo stepRows at h
    obtain ⟨o, ho, h⟩ := List.mem_flatMap.mp h
    obtain ⟨w, hw, rfl⟩ := List.mem_map.mp h
    obtain ⟨h1, h2⟩ := rowsTo_mem G hrow hsm k o ho
    have hw' := (List.mem_filter.mp hw).1
    refine ⟨by rw [List.length_append, h1]; rfl, ⟨fun v hv => ?_⟩⟩
    rcases List.mem_append.mp hv with hv | hv
    · exact h2.v v hv
    · rw [List.mem_singleton] at hv; subst hv; simp at hw'; rcases hw' with rfl | rfl <;> decide
section
variable {c : Cx} {n : Nat} {fd : O} {b : Base} {tv : List V} {md : List (TK × V)} {ls : List O} {es : List (Int × V)} {σ : List O}
noncomputable def RowsAt (σ : List O) (v : V) (rows : List (List Int)) : Prop := v = .lst (rows.map lineV) ∨ ∃ i, v = .ref i ∧ σ[i]? = some (.list (rows.map lineV))
theorem RowsAt.items {v : V} {rows : List (List Int)} (h : RowsAt σ v rows) {ρ : List O} {k : List V → Option (Nat × List V) → Prop} (hk : ∀ tr, (∀ ρ', TrOk (σ ++ ρ') tr) → k (rows.map lineV) tr) : ItemsOk (σ ++ ρ) v k := by
  rcases h with rfl | ⟨i, rfl, hi⟩
  · exact hk none fun _ => trivial
  · refine items_ref (by rw [List.getElem?_append_left (List.getElem?_eq_some_iff.mp hi).1]; exact hi) (hk _ fun ρ' => ?_)
    show (σ ++ ρ')[i]? = _
    rw [List.getElem?_append_left (List.getElem?_eq_some_iff.mp hi).1]; exact hi
noncomputable abbrev Sl (fd : O) (b : Base) (N : Nat) (tv : List V) (md : List (TK × V)) (es : List (Int × V)) (ls : List O) : List O := St fd (varsV b N) tv md (.idict es :: ls)

theorem S_many (t : Txt c) (G : Int → List Td) {N : Nat} {row : List Int} {Φ : V → List O → Prop} (hN : 3 ≤ N) (hN2 : N < 500) (hrow : row.length = 3) (hsm : Small row)
    (hL : LateOk (Sl fd b N tv md es ls) es G) (hd : ∀ place, ∀ d ∈ G place, d.ok ∧ d.about.length < 1000) (hg : ∀ place, (G place).length < 1000)
    (he : ∀ place ∈ early, ∀ d ∈ G place, ∀ x ∈ d.about, 0 ≤ x ∧ x < 3) (hp : ∀ p : Nat, 3 ≤ p → p < N → ∀ d ∈ G p, ∀ x ∈ d.about, 0 ≤ x ∧ x < (p : Int) + 1)
    (hB : ∀ k, 3 + k ≤ N → (rowsTo G row k).length < 1000) (h : Φ (.int (manyF G row (N - 3))) (Sl fd b N tv md es ls)) :
    WpC c (n + 3) (.ref 297) (Sl fd b N tv md es ls) [.inst 80 2, .ref 6, lineV row] Φ := by
  have hsl : (Sl fd b N tv md es ls).length = 7 + ls.length := by simp; (first | lia | omega)
  refine WpC_drop (WpC_def (D_law_many t) rfl ?_)
  unfold bd_law_many
  dsimp only
  refine WpS_cons ?_
  walk_at "s"
  refine WpE_list ?_ (by rfl) (by intro _ _; with_unfolding_all rfl)
  repeat walk_at "e"
  refine WpS_cons (WpX_if ?_)
  repeat walk_at "e"
  refine WpE_comp2 ⟨rfl, by decide +kernel, by decide +kernel, by decide +kernel⟩ (by decide +kernel) (by decide +kernel) ?_ (by intro _ _; with_unfolding_all rfl) (by intro _ _; with_unfolding_all rfl)
  repeat walk_at "e"
  refine ⟨rfl, ?_⟩
  show LvGo c (n + 2) _ (Sl fd b N tv md es ls) _ [] _ (early.map V.int) _ [] _
  have hlen : (early.flatMap G).length < 4000 := by
    have h1 := hg (-1); have h2 := hg 0; have h3 := hg 1; have h4 := hg 2
    simp [early]; (first | lia | omega)
  have hed : ∀ d ∈ early.flatMap G, d.ok ∧ RowOk row d.about := fun d hdm => by
    obtain ⟨place, hpl, hdm⟩ := List.mem_flatMap.mp hdm
    refine ⟨(hd place d hdm).1, ⟨fun x hx => ?_, hsm.v, by (first | lia | omega), (hd place d hdm).2⟩⟩
    have := he place hpl d hdm x hx
    rw [hrow]; exact this
  refine lvGo_flatE V.int Td.v G (fun d => !d.holds row) Td.v (fun m' => m' "late" = some (.ref 6) ∧ m' "row" = some (lineV row)) early _ [] ⟨rfl, rfl⟩ (by show 0 + _ < _; (first | lia | omega)) ?_ ?_ ?_
  · rintro place hpl m' acc ⟨h1, h2⟩
    refine ⟨_, asg_name (.inl (by decide +kernel)), ⟨h1, h2⟩, ?_⟩
    refine WpE_mB F.plainAttrs_dict F.slot_dict_get F.type_dict_get (by intro _; with_unfolding_all rfl) (by intro _ _; with_unfolding_all rfl) ?_
    repeat walk_at "e"
    refine ⟨6, _, rfl, rfl, rfl, ?_⟩
    repeat walk_at "e"
    refine WpE_list ?_ (by rfl) (by intro _ _; with_unfolding_all rfl)
    repeat walk_at "e"
    refine WpC_get rfl ?_
    refine ⟨rfl, ?_⟩
    have := hL place [] (fun ys _ => ys = (G place).map Td.v) fun tr _ => rfl
    rw [List.append_nil] at this
    exact this
  · rintro d hdm m' acc ⟨h1, h2⟩
    refine ⟨_, asg_name (.inl (by decide +kernel)), ⟨h1, h2⟩, ?_, fun _ => ?_⟩
    · show WpT _ _ _ _ _ _ _
      walk_at "e"
      walk_at "e"
      refine WpE_call _ (G_law_holds t) (C_law_holds t) ?_
      repeat walk_at "e"
      refine WpC.room (k := n + 2) (S_holds t (hed d hdm).1 (hed d hdm).2 ?_) (by (first | lia | omega))
      show TruOk (.bool (d.holds row)) _
      exact ⟨rfl, rfl⟩
    · repeat walk_at "e"
      exact ⟨rfl, rfl⟩
  intro m' _
  refine ⟨rbs_all fun x hx => by
    rw [List.nil_append] at hx
    obtain ⟨p, _, rfl⟩ := List.mem_map.mp hx; exact rb_td p, ?_⟩
  refine WpE_list ?_ (by rfl) (by intro _ _; with_unfolding_all rfl)
  repeat walk_at "e"
  have hds : isDs 7 (([] : List V) ++ ((early.flatMap G).filter fun d => !d.holds row).map Td.v) = true := by
    rw [List.nil_append]
    exact isDs_all fun x hx => by
      obtain ⟨d, hd', rfl⟩ := List.mem_map.mp hx
      exact isD_td (hed d (List.mem_filter.mp hd').1).1
  refine ⟨hds, by rfl, ?_⟩
  rw [eqV_lst_nil, none_left]
  cases hall : (early.flatMap G).all fun d => d.holds row with
  | false =>
    refine ifT rfl ?_
    refine WpS_cons (WpX_return ?_)
    repeat walk_at "e"
    refine ⟨Sl fd b N tv md es ls, [], by simp, Within.refl _, rfl, ?_⟩
    have : manyF G row (N - 3) = 0 := if_neg (by rw [hall]; decide)
    rw [this] at h
    exact h
  | true =>
    refine ifF rfl ?_
    refine WpS_nil ?_
    have hF : manyF G row (N - 3) = ((rowsTo G row (N - 3)).length : Int) := if_pos hall
    rw [hF] at h
    refine WpS_cons (WpX_for ?_)
    refine WpE_call _ (B_range t) trivial ?_
    repeat walk_at "e"
    refine WpE_m (M_size t) (by intro _; with_unfolding_all rfl) (by intro _ _; with_unfolding_all rfl) ?_
    repeat walk_at "e"
    refine ⟨2, _, rfl, rfl, rfl, ?_⟩
    repeat walk_at "e"
    refine WpC.room (k := n + 1) (S_size t (by rw [varsV_len]; (first | lia | omega)) ?_) (by (first | lia | omega))
    rw [varsV_len]
    repeat walk_at "e"
    refine WpC_range2 ?_
    refine ⟨⟨by (first | lia | omega), by (first | lia | omega), by (first | lia | omega), by (first | lia | omega)⟩, ?_⟩
    refine forGo_inv (fun vs m σ' => ∃ (p : Nat) (τ : List O) (v : V), 3 ≤ p ∧ p ≤ N ∧ vs = rangeV p N ∧ σ' = Sl fd b N tv md es ls ++ τ ∧ m "flat" = some (.inst 80 2) ∧ m "late" = some (.ref 6) ∧ m "rows" = some v ∧
      RowsAt (Sl fd b N tv md es ls ++ τ) v (rowsTo G row (p - 3))) ?_ ?_ _ _ _ ⟨3, [], _, by (first | lia | omega), hN, rfl, by simp, rfl, rfl, rfl, .inl rfl⟩
    · rintro m σ' ⟨p, τ, v, hp3, hpN, hvs, rfl, hfl, hla, hro, hat⟩
      have hpN' : p = N := by
        by_cases q : p < N
        · rw [rangeV_cons (by (first | lia | omega))] at hvs; cases hvs
        · (first | lia | omega)
      subst hpN'
      refine ⟨trivial, ?_⟩
      refine WpS_cons (WpX_return ?_)
      refine WpE_call _ (B_len t) trivial ?_
      repeat walk_at "e"
      have hb := hB (p - 3) (by (first | lia | omega))
      have fin : (fun v σ' => match Fl.ret v with
        | Fl.ret v => ∃ σ₁ τ, σ' = σ₁ ++ τ ∧ Within (Sl fd b p tv md es ls) σ₁ ∧ rb (Sl fd b p tv md es ls).length v = true ∧ Φ v σ₁
        | _ => False) (.int ((rowsTo G row (p - 3)).length : Int)) (Sl fd b p tv md es ls ++ τ) := ⟨_, τ, rfl, Within.refl _, rfl, h⟩
      rcases hat with rfl | ⟨i, rfl, hi⟩
      · exact WpC_len (k := (rowsTo G row (p - 3)).length) (by show some ((rowsTo G row (p - 3)).map lineV).length = _; rw [List.length_map]) (by (first | lia | omega)) fin
      · refine WpC_len (k := (rowsTo G row (p - 3)).length) ?_ (by (first | lia | omega)) fin
        simp only [hi, List.length_map]
    · rintro w vs m σ' ⟨p, τ, v, hp3, hpN, hvs, rfl, hfl, hla, hro, hat⟩
      have hlt : p < N := by
        by_cases q : p < N
        · exact q
        · rw [rangeV_nil (by (first | lia | omega))] at hvs; cases hvs
      rw [rangeV_cons (by (first | lia | omega))] at hvs
      simp only [List.cons.injEq] at hvs
      obtain ⟨rfl, rfl⟩ := hvs
      refine ⟨trivial, _, asg_name (.inl (by decide +kernel)), ?_⟩
      refine gen3 fun Ψ hΨ => ?_
      refine WpS_cons ?_
      walk_at "s"
      refine WpE_listT ?_ (by rfl) (by intro _ _; with_unfolding_all rfl)
      repeat walk_at "e"
      refine WpS_cons (WpX_for ?_)
      repeat walk_at "e"
      refine hat.items fun tr htr => ?_
      have hpk : 3 + (p - 3) = p := by (first | lia | omega)
      have hrows := rowsTo_mem G hrow hsm (p - 3)
      have hB0 := hB (p - 3) (by (first | lia | omega))
      have hdm : b.dom p = [(0, 1)] := dom_ge b hp3
      refine forGo_inv (fun vs m σ' => ∃ (done rest : List (List Int)), done ++ rest = rowsTo G row (p - 3) ∧ vs = rest.map lineV ∧ σ' = Sl fd b N tv md es ls ++ (τ ++ [.list ((stepRows G p done).map lineV)]) ∧ m "flat" = some (.inst 80 2) ∧ m "late" = some (.ref 6) ∧
        m "place" = some (.int p) ∧ m "grown" = some (.ref (Sl fd b N tv md es ls ++ τ).length)) ?_ ?_ _ _ _ ⟨[], rowsTo G row (p - 3), rfl, rfl, by rw [List.append_assoc]; rfl, hfl, hla, rfl, rfl⟩
      · rintro m σ' ⟨done, rest, hdr, hvs, rfl, hfl, hla, hpl, hgr⟩
        have : rest = [] := by simpa using hvs.symm
        subst this
        rw [List.append_nil] at hdr
        subst hdr
        refine ⟨by rw [← List.append_assoc]; exact htr _, ?_⟩
        refine WpS_cons ?_
        walk_at "s"
        repeat walk_at "e"
        refine WpS_nil ?_
        refine hΨ .next _ _ ?_
        refine ⟨p + 1, _, _, by (first | lia | omega), by (first | lia | omega), rfl, rfl, hfl, hla, rfl, .inr ⟨_, rfl, ?_⟩⟩
        rw [← List.append_assoc]
        have e : p + 1 - 3 = (p - 3) + 1 := by (first | lia | omega)
        rw [last_at, e]
        show _ = some (O.list ((stepRows G (3 + (p - 3)) (rowsTo G row (p - 3))).map lineV))
        rw [hpk]
      · rintro x xs m σ' ⟨done, rest, hdr, hvs, rfl, hfl, hla, hpl, hgr⟩
        obtain ⟨one, rest, rfl⟩ : ∃ y ys', rest = y :: ys' := by cases rest with
          | nil => simp at hvs
          | cons y ys' => exact ⟨y, ys', rfl⟩
        simp only [List.map_cons, List.cons.injEq] at hvs
        obtain ⟨rfl, rfl⟩ := hvs
        obtain ⟨ho1, ho2⟩ := hrows one (by rw [← hdr]; simp)
        rw [hpk] at ho1
        have hdl : done.length < 1000 := by rw [← hdr, List.length_append] at hB0; (first | lia | omega)
        refine ⟨by rw [← List.append_assoc]; exact htr _, _, asg_name (.inr (by decide +kernel)), ?_⟩
        refine gen3 fun Ψ2 hΨ2 => ?_
        refine WpS_cons (WpX_for ?_)
        refine WpE_comp2 ⟨rfl, by decide +kernel, by decide +kernel, by decide +kernel⟩ (by decide +kernel) (by decide +kernel) ?_ (by intro _ _; with_unfolding_all rfl) (by intro _ _; with_unfolding_all rfl)
        refine WpE_m (M_domain_of t) (by intro _; with_unfolding_all rfl) (by intro _ _; with_unfolding_all rfl) ?_
        repeat walk_at "e"
        refine ⟨2, _, rfl, rfl, rfl, ?_⟩
        repeat walk_at "e"
        refine WpC.room (k := n + 1) (S_domain_of t (rest := .idict es :: (ls ++ (τ ++ [.list ((stepRows G p done).map lineV)]))) (by (first | lia | omega)) (by (first | lia | omega)) (varsV_at b (x := p) (by (first | lia | omega))) ?_) (by (first | lia | omega))
        refine ⟨rfl, ?_⟩
        rw [hdm]
        refine lvGo_flatE pairV V.int (fun _ => [0, 1]) (fun _ => true) V.int (fun _ => True) [(0, 1)] _ [] trivial (by decide) ?_ ?_ ?_
        · rintro ⟨l0, h0⟩ hm0 m' acc _
          obtain ⟨rfl, rfl⟩ : l0 = 0 ∧ h0 = 1 := by simpa using hm0
          refine ⟨_, asg_pair (.inl (by decide +kernel)) (.inl (by decide +kernel)), trivial, ?_⟩
          refine WpE_call _ (B_range t) trivial ?_
          repeat walk_at "e"
          show WpEs _ _ _ _ _ _ _
          repeat walk_at "e"
          refine WpC_range2 ?_
          exact ⟨rfl, ⟨by (first | lia | omega), by (first | lia | omega), by (first | lia | omega), by (first | lia | omega)⟩, rfl⟩
        · rintro v hv m' acc _
          refine ⟨_, asg_name (.inl (by decide +kernel)), trivial, rfl, fun _ => ?_⟩
          repeat walk_at "e"
          exact ⟨rfl, rfl⟩
        intro m' _
        refine ⟨by rw [List.nil_append]; exact rbs_all fun x hx => by obtain ⟨p, _, rfl⟩ := List.mem_map.mp hx; first | rfl | simp [rb], ?_⟩
        show ForGo _ _ _ _ _ _ _ (([0, 1] : List Int).map V.int) _ _
        refine forGo_inv (fun vs m σ' => ∃ (wd wr : List Int), wd ++ wr = [0, 1] ∧ vs = wr.map V.int ∧ σ' = Sl fd b N tv md es ls ++ (τ ++ [.list ((stepRows G p done ++ grow1 G p one wd).map lineV)]) ∧ m "flat" = some (.inst 80 2) ∧ m "late" = some (.ref 6) ∧
          m "place" = some (.int p) ∧ m "grown" = some (.ref (Sl fd b N tv md es ls ++ τ).length) ∧ m "one" = some (lineV one)) ?_ ?_ _ _ _ ⟨[], [0, 1], rfl, rfl, by simp [grow1], hfl, hla, hpl, hgr, rfl⟩
        · rintro m σ' ⟨wd, wr, hwd, hvs, rfl, hfl, hla, hpl, hgr, hon⟩
          have : wr = [] := by simpa using hvs.symm
          subst this
          rw [List.append_nil] at hwd
          subst hwd
          refine ⟨trivial, ?_⟩
          refine WpS_nil ?_
          refine hΨ2 .next _ _ ?_
          refine ⟨done ++ [one], rest, by rw [List.append_assoc]; exact hdr, rfl, ?_, hfl, hla, hpl, hgr⟩
          rw [stepRows_snoc]
        · rintro x xs m σ' ⟨wd, wr, hwd, hvs, rfl, hfl, hla, hpl, hgr, hon⟩
          obtain ⟨w, wr, rfl⟩ : ∃ y ys', wr = y :: ys' := by cases wr with
            | nil => simp at hvs
            | cons y ys' => exact ⟨y, ys', rfl⟩
          simp only [List.map_cons, List.cons.injEq] at hvs
          obtain ⟨rfl, rfl⟩ := hvs
          have hw : w ∈ ([0, 1] : List Int) := by rw [← hwd]; simp
          have hw2 : -100 ≤ w ∧ w ≤ 100 := by simp at hw; rcases hw with rfl | rfl <;> decide
          have hwdl : wd.length ≤ 2 := by have := congrArg List.length hwd; simp at this; (first | lia | omega)
          have hline : lineV (one ++ [w]) = .lst (one.map V.int ++ [.int w]) := by unfold lineV; rw [List.map_append]; rfl
          refine ⟨trivial, _, asg_name (.inr (by decide +kernel)), ?_⟩
          refine gen3 fun Ψ3 hΨ3 => ?_
          refine WpS_cons (WpX_if ?_)
          repeat walk_at "e"
          refine WpE_comp1 ⟨rfl, by decide +kernel, by decide +kernel, by decide +kernel⟩ (by decide +kernel) ?_ (by intro _ _; with_unfolding_all rfl)
          refine WpE_mB F.plainAttrs_dict F.slot_dict_get F.type_dict_get (by intro _; with_unfolding_all rfl) (by intro _ _; with_unfolding_all rfl) ?_
          repeat walk_at "e"
          refine ⟨6, _, rfl, rfl, rfl, ?_⟩
          repeat walk_at "e"
          refine WpE_list ?_ (by rfl) (by intro _ _; with_unfolding_all rfl)
          repeat walk_at "e"
          refine WpC_get rfl ?_
          refine ⟨rfl, ?_⟩
          refine hL p _ _ fun tr' _ => ?_
          have hro : ∀ d ∈ G p, RowOk (one ++ [w]) d.about := fun d hdm => ⟨fun x hx => by
            have := hp p hp3 hlt d hdm x hx
            rw [List.length_append, ho1]; simpa using this, fun v hv => by
            rcases List.mem_append.mp hv with hv | hv
            · exact ho2.v v hv
            · rw [List.mem_singleton] at hv; subst hv; exact hw2, by rw [List.length_append, ho1]; simp; (first | lia | omega), (hd p d hdm).2⟩
          refine lvGo_mapE Td.v (fun d => !d.holds (one ++ [w])) Td.v (fun m' => m' "one" = some (lineV one) ∧ m' "worth" = some (.int w)) (G p) _ [] ⟨hon, rfl⟩ (by have := hg p; show 0 + _ < _; (first | lia | omega)) ?_ ?_
          · rintro d hdm m' acc ⟨h1, h2⟩
            refine ⟨_, asg_name (.inl (by decide +kernel)), ⟨h1, h2⟩, ?_, fun _ => ?_⟩
            · show WpT _ _ _ _ _ _ _
              walk_at "e"
              walk_at "e"
              refine WpE_call _ (G_law_holds t) (C_law_holds t) ?_
              repeat walk_at "e"
              refine WpE_list ?_ (by rfl) (by intro _ _; with_unfolding_all rfl)
              repeat walk_at "e"
              show BinOk _ (.lst (one.map V.int)) (.lst [.int w]) _
              refine ⟨by rw [List.length_map, ho1]; simp; unfold sizeLine; (first | lia | omega), ?_⟩
              refine WpEs_nil ?_
              rw [← hline]
              refine WpC.room (k := n + 2) (S_holds t (hd p d hdm).1 (hro d hdm) ?_) (by (first | lia | omega))
              show TruOk (.bool (d.holds (one ++ [w]))) _
              exact ⟨rfl, rfl⟩
            · repeat walk_at "e"
              exact ⟨rfl, rfl⟩
          intro m' _
          refine ⟨rbs_all fun x hx => by
            rw [List.nil_append] at hx
            obtain ⟨p, _, rfl⟩ := List.mem_map.mp hx; exact rb_td p, ?_⟩
          refine WpE_list ?_ (by rfl) (by intro _ _; with_unfolding_all rfl)
          repeat walk_at "e"
          have hds : isDs 7 (([] : List V) ++ ((G p).filter fun d => !d.holds (one ++ [w])).map Td.v) = true := by
            rw [List.nil_append]
            exact isDs_all fun x hx => by
              obtain ⟨d, hd', rfl⟩ := List.mem_map.mp hx
              exact isD_td (hd p d (List.mem_filter.mp hd').1).1
          refine ⟨hds, by rfl, ?_⟩
          rw [eqV_lst_nil, none_left]
          have hsr := stepRows_len G p done
          have hgr1 : (grow1 G p one wd).length ≤ 2 := by
            unfold grow1
            rw [List.length_map]; exact Nat.le_trans (List.length_filter_le _ _) hwdl
          cases hall2 : (G p).all fun d => d.holds (one ++ [w]) with
          | false =>
            refine ifF rfl ?_
            repeat refine WpS_nil ?_
            refine hΨ3 .next _ _ ?_
            refine ⟨wd ++ [w], wr, by rw [List.append_assoc]; exact hwd, rfl, ?_, hfl, hla, hpl, hgr, hon⟩
            have : grow1 G p one (wd ++ [w]) = grow1 G p one wd := by unfold grow1; rw [List.filter_append, List.filter_cons_of_neg (by rw [hall2]; decide)]; simp
            rw [this]
          | true =>
            refine ifT rfl ?_
            refine WpS_cons (WpX_expr ?_ (by intro env h; simp only [interactive, h]; decide +kernel) (by intro _; with_unfolding_all rfl))
            refine WpE_mB F.plainAttrs_list F.slot_list_append F.type_list_append (by intro _; with_unfolding_all rfl) (by intro _ _; with_unfolding_all rfl) ?_
            repeat walk_at "e"
            have hat2 : (Sl fd b N tv md es ls ++ (τ ++ [O.list ((stepRows G p done ++ grow1 G p one wd).map lineV)]))[(Sl fd b N tv md es ls ++ τ).length]? = some (.list ((stepRows G p done ++ grow1 G p one wd).map lineV)) := by
              rw [← List.append_assoc]; exact last_at
            refine ⟨_, _, rfl, hat2, rfl, ?_⟩
            repeat walk_at "e"
            refine WpE_list ?_ (by rfl) (by intro _ _; with_unfolding_all rfl)
            repeat walk_at "e"
            show BinOk _ (.lst (one.map V.int)) (.lst [.int w]) _
            refine ⟨by rw [List.length_map, ho1]; simp; unfold sizeLine; (first | lia | omega), ?_⟩
            refine WpEs_nil ?_
            refine WpC_append hat2 (by rw [List.length_map, List.length_append]; (first | lia | omega)) ?_
            refine ⟨trivial, ?_⟩
            repeat refine WpS_nil ?_
            refine hΨ3 .next _ _ ?_
            refine ⟨wd ++ [w], wr, by rw [List.append_assoc]; exact hwd, rfl, ?_, hfl, hla, hpl, hgr, hon⟩
            rw [← List.append_assoc, last_set]
            have : grow1 G p one (wd ++ [w]) = grow1 G p one wd ++ [one ++ [w]] := by unfold grow1; rw [List.filter_append, List.filter_cons_of_pos (p := fun w => (G p).all fun d => d.holds (one ++ [w])) hall2]; simp
            rw [this, ← hline, ← List.append_assoc (stepRows G p done), List.map_append (l₂ := [one ++ [w]]), List.append_assoc]
            rfl
end

/-! part C12 -/
noncomputable def extraT : Tr → List V
  | .bool true => []
  | .bool false => [clauseV [] []]
  | .bit x true => [clauseV [x] []]
  | .bit x false => [clauseV [] [x]]
theorem strOk_bit : PyData.strOk "bit" = true := by decide +kernel
theorem isD_tr (tr : Tr) : isD 8 tr.v = true := by
  cases tr with
  | bool => rfl
  | bit x u => show (PyData.strOk "bit" && (true && (true && true))) = true; rw [strOk_bit]; rfl
theorem isDs_tr (tr : Tr) : isDs 8 [tr.v] = true := by show (isD 8 tr.v && true) = true; rw [isD_tr]; rfl
theorem rb_tr {k : Nat} (tr : Tr) : rb k tr.v = true := by cases tr <;> rfl
theorem eqV_bits (x : Int) (u w : Bool) : eqV (Tr.bit x u).v (Tr.bit x w).v = (u == w) := by
  show PyData.eqv (.tuple [.str "bit", .int x, .bool u]) (.tuple [.str "bit", .int x, .bool w]) = _
  cases u <;> cases w <;> simp [PyData.eqv, PyData.eqvAll]
theorem tr_nf {tr : Tr} (h : tr ≠ .bool true) : tr = .bool false ∨ ∃ x u, tr = .bit x u := by
  cases tr with
  | bool b => cases b with
    | true => exact absurd rfl h
    | false => exact .inl rfl
  | bit x u => exact .inr ⟨x, u, rfl⟩
noncomputable def bitsOf : Tr → List V
  | .bit x u => [(Tr.bit x u).v]
  | _ => []
noncomputable def upsOf : Tr → List Int
  | .bit x true => [x]
  | _ => []
noncomputable def downsOf : Tr → List Int
  | .bit x false => [x]
  | _ => []
theorem extraT_eq {tr : Tr} (h : tr ≠ .bool true) : extraT tr = [clauseV (upsOf tr) (downsOf tr)] := by
  rcases tr_nf h with rfl | ⟨x, u, rfl⟩
  · rfl
  · cases u <;> rfl
theorem bits_len (tr : Tr) : (bitsOf tr).length ≤ 1 := by cases tr <;> simp [bitsOf]
theorem ups_len (tr : Tr) : (upsOf tr).length ≤ 1 := by cases tr with
  | bool b => simp [upsOf]
  | bit x u => cases u <;> simp [upsOf]
theorem downs_len (tr : Tr) : (downsOf tr).length ≤ 1 := by cases tr with
  | bool b => simp [downsOf]
  | bit x u => cases u <;> simp [downsOf]
theorem rbs_ints {k : Nat} (l : List Int) : rbs k (l.map V.int) = true := rbs_all fun x hx => by obtain ⟨p, _, rfl⟩ := List.mem_map.mp hx; first | rfl | simp [rb]
section
variable {c : Cx} {n : Nat} {fd : O} {b : Base} {ts : List TK} {rest : List O} {σ : List O}
theorem S_require_some (t : Txt c) {tr : Tr} {Φ : V → List O → Prop} (hz : ts.length < 500)
    (h : Φ .none (St fd (varsV b (3 + ts.length)) (toldsV ts ++ extraT tr) (madeV ts) rest)) :
    WpC c (n + 5) (.ref 259) (Gs fd b ts rest) [.inst 269 1, .lst [tr.v]] Φ := by
  refine WpC_def (D_require_some t) rfl ?_
  unfold bd_require_some
  dsimp only
  have htz : (toldsV ts).length < 1000 := by unfold toldsV; rw [List.length_map, List.length_zipIdx]; (first | lia | omega)
  refine WpS_cons (WpX_if ?_)
  repeat walk_at "e"
  by_cases htr : tr = .bool true
  · subst htr
    refine ⟨by rfl, by rfl, ?_⟩
    refine ifT (by rfl) ?_
    refine ifT (by rfl) ?_
    refine WpS_cons (WpX_return0 ?_)
    simp only [extraT, List.append_nil] at h
    exact h
  have hany : ([tr.v].any fun y => eqV y (V.bool true)) = false := by
    rcases tr_nf htr with rfl | ⟨x, u, rfl⟩
    · rfl
    · show (eqV (.tup _) (.bool true) || false) = false
      rw [eqV_tb]; rfl
  refine ⟨by rfl, isDs_tr tr, ?_⟩
  refine ifF hany ?_
  repeat walk_at "e"
  refine WpE_comp1 ⟨rfl, by decide +kernel, by decide +kernel, by decide +kernel⟩ (by decide +kernel) ?_ (by intro _ _; with_unfolding_all rfl)
  repeat walk_at "e"
  refine ⟨rfl, ?_⟩
  refine lvGo_map' (fun _ => false) (fun v => v) (fun m' => m' "truths" = some (.lst [tr.v])) _ _ _ rfl (by simp) ?_ ?_
  · intro v hv m' acc hm'
    rw [List.mem_singleton] at hv
    subst hv
    refine ⟨_, asg_name (.inl (by decide +kernel)), hm', ?_, fun h => by cases h⟩
    show WpT _ _ _ _ _ _ _
    repeat walk_at "e"
    refine ⟨isD_tr tr, by rfl, ?_⟩
    rcases tr_nf htr with rfl | ⟨x, u, rfl⟩
    · refine ifF (by rfl) ?_
      exact ⟨rfl, rfl⟩
    · refine ifT (show (!eqV (Tr.bit x u).v (.bool false)) = true by rw [show eqV (Tr.bit x u).v (.bool false) = false from eqV_tb _ _]; rfl) ?_
      repeat walk_at "e"
      refine WpE_call _ (G_contrary t) (C_contrary t) ?_
      repeat walk_at "e"
      refine WpC.room (k := n + 2) (S_contrary t ?_) (by (first | lia | omega))
      repeat walk_at "e"
      refine ⟨isD_tr _, isDs_tr _, ?_⟩
      have : ([(Tr.bit x u).v].any fun y => eqV y (Tr.bit x !u).v) = false := by
        rw [List.any_cons, eqV_bits]; cases u <;> rfl
      refine ifF this ?_
      exact ⟨rfl, rfl⟩
  intro m' _
  refine ⟨by rfl, ?_⟩
  refine WpE_list ?_ (by rfl) (by intro _ _; with_unfolding_all rfl)
  repeat walk_at "e"
  refine ⟨by rfl, by rfl, ?_⟩
  refine ifF (by rfl) ?_
  repeat walk_at "e"
  refine ifF (by rfl) ?_
  refine WpS_nil ?_
  refine WpS_cons ?_
  walk_at "s"
  refine WpE_call _ (B_sorted t) trivial ?_
  repeat walk_at "e"
  refine WpE_comp1 ⟨rfl, by decide +kernel, by decide +kernel, by decide +kernel⟩ (by decide +kernel) ?_ (by intro _ _; with_unfolding_all rfl)
  repeat walk_at "e"
  refine ⟨rfl, ?_⟩
  refine lvGo_map' (fun v => !eqV v (.bool false)) (fun v => v) (fun _ => True) _ _ _ trivial (by simp) ?_ ?_
  · intro v hv m' acc hm'
    rw [List.mem_singleton] at hv
    subst hv
    refine ⟨_, asg_name (.inl (by decide +kernel)), trivial, ?_, fun _ => ?_⟩
    · show WpT _ _ _ _ _ _ _
      repeat walk_at "e"
      exact ⟨isD_tr tr, by rfl, rfl, rfl⟩
    · repeat walk_at "e"
      exact ⟨rfl, rfl⟩
  intro m' _
  have hbits : (([] : List V) ++ ([tr.v].filter fun v => !eqV v (.bool false)).map fun v => v) = bitsOf tr := by
    rcases tr_nf htr with rfl | ⟨x, u, rfl⟩
    · rfl
    · rw [List.filter_cons_of_pos (by show (!eqV (Tr.bit x u).v (.bool false)) = true; rw [show eqV (Tr.bit x u).v (.bool false) = false from eqV_tb _ _]; rfl)]
      rfl
  rw [hbits]
  refine ⟨rbs_all fun x hx => ?_, ?_⟩
  · rcases tr_nf htr with rfl | ⟨x', u, rfl⟩
    · simp [bitsOf] at hx
    · simp only [bitsOf, List.mem_singleton] at hx
      subst hx; exact rb_tr _
  refine WpEs_nil ?_
  have hbl := bits_len tr
  refine WpC_sorted1 (by (first | lia | omega)) ?_
  refine WpS_cons (WpX_swap ["ups", "downs"] ?_ (by intro env h; cases env; subst h; with_unfolding_all rfl) (by decide +kernel) (by intro env; with_unfolding_all rfl))
  repeat walk_at "e"
  refine WpE_comp1 ⟨rfl, by decide +kernel, by decide +kernel, by decide +kernel⟩ (by decide +kernel) ?_ (by intro _ _; with_unfolding_all rfl)
  repeat walk_at "e"
  refine ⟨rfl, ?_⟩
  have hub : ∀ v ∈ bitsOf tr, ∃ x u, tr = .bit x u ∧ v = (Tr.bit x u).v := fun v hv => by
    rcases tr_nf htr with rfl | ⟨x, u, rfl⟩
    · simp [bitsOf] at hv
    · simp only [bitsOf, List.mem_singleton] at hv
      exact ⟨x, u, rfl, hv⟩
  refine lvGo_map' (fun v => match v with | .tup [_, _, .bool u] => u | _ => false) (fun v => match v with | .tup [_, .int x, _] => .int x | _ => .none) (fun _ => True) _ _ _ trivial (by simp; (first | lia | omega)) ?_ ?_
  · intro v hv m' acc hm'
    obtain ⟨x, u, rfl, rfl⟩ := hub v hv
    refine ⟨_, asg_name (.inl (by decide +kernel)), trivial, ?_, fun _ => ?_⟩
    · show WpT _ _ _ _ _ _ _
      repeat walk_at "e"
      refine ⟨by decide, _, rfl, ?_⟩
      exact ⟨rfl, rfl⟩
    · repeat walk_at "e"
      refine ⟨by decide, _, rfl, ?_⟩
      exact ⟨rfl, rfl⟩
  intro m' _
  have hups : (([] : List V) ++ ((bitsOf tr).filter fun v => match v with | .tup [_, _, .bool u] => u | _ => false).map fun v => match v with | .tup [_, .int x, _] => .int x | _ => .none) = (upsOf tr).map V.int := by
    rcases tr_nf htr with rfl | ⟨x, u, rfl⟩
    · rfl
    · cases u <;> rfl
  rw [hups]
  refine ⟨rbs_ints _, ?_⟩
  repeat walk_at "e"
  refine WpE_comp1 ⟨rfl, by decide +kernel, by decide +kernel, by decide +kernel⟩ (by decide +kernel) ?_ (by intro _ _; with_unfolding_all rfl)
  repeat walk_at "e"
  refine ⟨rfl, ?_⟩
  refine lvGo_map' (fun v => match v with | .tup [_, _, .bool u] => !u | _ => false) (fun v => match v with | .tup [_, .int x, _] => .int x | _ => .none) (fun _ => True) _ _ _ trivial (by simp; (first | lia | omega)) ?_ ?_
  · intro v hv m' acc hm'
    obtain ⟨x, u, rfl, rfl⟩ := hub v hv
    refine ⟨_, asg_name (.inl (by decide +kernel)), trivial, ?_, fun _ => ?_⟩
    · show WpT _ _ _ _ _ _ _
      repeat walk_at "e"
      refine ⟨by decide, _, rfl, ?_⟩
      exact ⟨rfl, rfl⟩
    · repeat walk_at "e"
      refine ⟨by decide, _, rfl, ?_⟩
      exact ⟨rfl, rfl⟩
  intro m' _
  have hdowns : (([] : List V) ++ ((bitsOf tr).filter fun v => match v with | .tup [_, _, .bool u] => !u | _ => false).map fun v => match v with | .tup [_, .int x, _] => .int x | _ => .none) = (downsOf tr).map V.int := by
    rcases tr_nf htr with rfl | ⟨x, u, rfl⟩
    · rfl
    · cases u <;> rfl
  rw [hdowns]
  refine ⟨rbs_ints _, ?_⟩
  repeat walk_at "e"
  refine ⟨_, rfl, rfl, ?_⟩
  refine WpS_cons (WpX_expr ?_ (by intro env h; simp only [interactive, h]; decide +kernel) (by intro _; with_unfolding_all rfl))
  refine WpE_m (M_post t) (by intro _; with_unfolding_all rfl) (by intro _ _; with_unfolding_all rfl) ?_
  refine WpE_attr (A_flat t) ?_ (by intro _; with_unfolding_all rfl)
  repeat walk_at "e"
  refine ⟨1, _, .inst 80 2, rfl, rfl, rfl, ?_⟩
  refine ⟨2, _, rfl, rfl, rfl, ?_⟩
  repeat walk_at "e"
  refine WpE_call _ (B_tuple t) trivial ?_
  refine WpEs_cons ?_
  have hul := ups_len tr
  have hdl := downs_len tr
  refine WpE_sortedset (B_sorted t) (B_set t) ?_ (by decide +kernel) (by decide +kernel) (by intro _ _; with_unfolding_all rfl) (by intro _ _; with_unfolding_all rfl)
  repeat walk_at "e"
  refine ⟨upsOf tr, hul, rfl, ?_⟩
  repeat walk_at "e"
  refine WpC_tuple (by rw [List.length_map]; unfold sizeLine; (first | lia | omega)) ?_
  repeat walk_at "e"
  refine WpE_call _ (B_tuple t) trivial ?_
  refine WpEs_cons ?_
  refine WpE_sortedset (B_sorted t) (B_set t) ?_ (by decide +kernel) (by decide +kernel) (by intro _ _; with_unfolding_all rfl) (by intro _ _; with_unfolding_all rfl)
  repeat walk_at "e"
  refine ⟨downsOf tr, hdl, rfl, ?_⟩
  repeat walk_at "e"
  refine WpC_tuple (by rw [List.length_map]; unfold sizeLine; (first | lia | omega)) ?_
  repeat walk_at "e"
  refine WpC.room (k := n + 1) (S_post t htz ?_) (by (first | lia | omega))
  refine ⟨trivial, ?_⟩
  repeat refine WpS_nil ?_
  rw [extraT_eq htr] at h
  exact h
end

/-! part D2 -/
/-! the plain law: what the told rows say -/
theorem atP_app {vals ws : List Int} {x : Int} (h0 : 0 ≤ x) (h : x < vals.length) : atP (vals ++ ws) x = atP vals x := by
  unfold atP; rw [List.getElem?_append_left (by (first | lia | omega))]
theorem atP_last {vals : List Int} {w : Int} : atP (vals ++ [w]) (vals.length : Int) = w := by
  unfold atP; rw [List.getElem?_append_right (by simp)]; simp
theorem linS_congr : ∀ (cs xs : List Int) {v v' : List Int}, (∀ x ∈ xs, atP v x = atP v' x) → linS cs xs v = linS cs xs v'
  | [], _, _, _, _ => by simp [linS]
  | _ :: _, [], _, _, _ => by simp [linS]
  | a :: cs, x :: xs, v, v', h => by
    have ih := linS_congr cs xs fun y hy => h y (List.mem_cons_of_mem _ hy)
    unfold linS at ih ⊢
    simp only [List.zipWith_cons_cons, List.sum_cons, ih, h x List.mem_cons_self]
theorem linH_congr {t : TK} {v v' : List Int} (h : ∀ x ∈ t.2.2.1, atP v x = atP v' x) : linH t v = linH t v' := by
  unfold linH; rw [linS_congr _ _ h]
theorem holds_congr {d : Td} {v v' : List Int} (h : ∀ x ∈ d.about, atP v x = atP v' x) : d.holds v = d.holds v' := by
  cases d with
  | lin t => exact linH_congr h
  | clause u dn =>
    have h1 : (u.any fun x => decide (atP v x = 1)) = u.any fun x => decide (atP v' x = 1) := by
      rw [Bool.eq_iff_iff, List.any_eq_true, List.any_eq_true]
      exact ⟨fun ⟨x, hx, e⟩ => ⟨x, hx, by rw [← h x (List.mem_append_left _ hx)]; exact e⟩, fun ⟨x, hx, e⟩ => ⟨x, hx, by rw [h x (List.mem_append_left _ hx)]; exact e⟩⟩
    have h2 : (dn.any fun x => decide (atP v x = 0)) = dn.any fun x => decide (atP v' x = 0) := by
      rw [Bool.eq_iff_iff, List.any_eq_true, List.any_eq_true]
      exact ⟨fun ⟨x, hx, e⟩ => ⟨x, hx, by rw [← h x (List.mem_append_right _ hx)]; exact e⟩, fun ⟨x, hx, e⟩ => ⟨x, hx, by rw [h x (List.mem_append_right _ hx)]; exact e⟩⟩
    show ((u.any fun x => decide (atP v x = 1)) || dn.any fun x => decide (atP v x = 0)) = ((u.any fun x => decide (atP v' x = 1)) || dn.any fun x => decide (atP v' x = 0))
    rw [h1, h2]
  | reif i t =>
    show (linH t v == decide (atP v i = 1)) = (linH t v' == decide (atP v' i = 1))
    rw [linH_congr fun x hx => h x (List.mem_cons_of_mem _ hx), h i List.mem_cons_self]

noncomputable def b01 (b : Bool) : Int := if b then 1 else 0
/-- a row, and the truths that were made, in their order -/
noncomputable def ext (row : List Int) (ts : List TK) : List Int := ts.foldl (fun vals t => vals ++ [b01 (linH t vals)]) row
theorem ext_snoc (row : List Int) (ts : List TK) (t : TK) : ext row (ts ++ [t]) = ext row ts ++ [b01 (linH t (ext row ts))] := by
  unfold ext; rw [List.foldl_append]; rfl
theorem ext_go : ∀ (us : List TK) (init : List Int), ∃ ws, us.foldl (fun vals t => vals ++ [b01 (linH t vals)]) init = init ++ ws ∧ ws.length = us.length
  | [], init => ⟨[], by simp⟩
  | t :: us, init => by
    obtain ⟨ws, h1, h2⟩ := ext_go us (init ++ [b01 (linH t init)])
    exact ⟨b01 (linH t init) :: ws, by rw [List.foldl_cons, h1, List.append_assoc]; rfl, by rw [List.length_cons, h2, List.length_cons]⟩
theorem ext_app (row : List Int) (ts us : List TK) : ∃ ws, ext row (ts ++ us) = ext row ts ++ ws ∧ ws.length = us.length := by
  obtain ⟨ws, h1, h2⟩ := ext_go us (ext row ts)
  exact ⟨ws, by unfold ext at h1 ⊢; rw [List.foldl_append, h1], h2⟩
theorem ext_len (row : List Int) (ts : List TK) : (ext row ts).length = row.length + ts.length := by
  obtain ⟨ws, h1, h2⟩ := ext_app row [] ts
  rw [List.nil_append] at h1
  rw [h1, List.length_append, h2]; rfl
theorem atP_ext {row : List Int} {ts us : List TK} {x : Int} (h0 : 0 ≤ x) (h : x < (row.length + ts.length : Nat)) : atP (ext row (ts ++ us)) x = atP (ext row ts) x := by
  obtain ⟨ws, h1, _⟩ := ext_app row ts us
  rw [h1]
  exact atP_app h0 (by rw [ext_len]; exact h)
theorem ext_at {row : List Int} {ts : List TK} {i : Nat} {t : TK} (h : ts[i]? = some t) : atP (ext row ts) ((row.length + i : Nat) : Int) = b01 (linH t (ext row (ts.take i))) := by
  obtain ⟨hi, e⟩ := List.getElem?_eq_some_iff.mp h
  have e2 : ts = (ts.take i ++ [t]) ++ ts.drop (i + 1) := by
    rw [← e, List.take_append_getElem, List.take_append_drop]
  have hl : (ts.take i).length = i := by rw [List.length_take]; (first | lia | omega)
  have e3 : ext row ts = ext row ((ts.take i ++ [t]) ++ ts.drop (i + 1)) := congrArg (ext row) e2
  rw [e3, atP_ext (by (first | lia | omega)) (by rw [List.length_append, hl]; simp; (first | lia | omega)), ext_snoc]
  have e4 : (row.length + i : Nat) = (ext row (ts.take i)).length := by rw [ext_len, hl]
  rw [e4, atP_last]

/-- the rows that were made -/
structure TsOk (ts : List TK) : Prop where
  ok : ∀ (i : Nat) (t : TK), ts[i]? = some t → IsK t.1 ∧ t.2.1.length = t.2.2.1.length ∧ (∀ x ∈ t.2.2.1, 0 ≤ x ∧ x < ((3 + i : Nat) : Int)) ∧ t.2.2.1.length < 900
theorem TsOk.nil : TsOk [] := ⟨fun i t h => by simp at h⟩
theorem TsOk.snoc {ts : List TK} {t : TK} (h : TsOk ts) (h1 : IsK t.1) (h2 : t.2.1.length = t.2.2.1.length) (h3 : ∀ x ∈ t.2.2.1, 0 ≤ x ∧ x < ((3 + ts.length : Nat) : Int)) (h4 : t.2.2.1.length < 900) : TsOk (ts ++ [t]) := ⟨fun i u hu => by
  by_cases hi : i < ts.length
  · rw [List.getElem?_append_left hi] at hu; exact h.ok i u hu
  · rw [List.getElem?_append_right (by (first | lia | omega))] at hu
    have hi' : i - ts.length = 0 := by
      rcases Nat.eq_zero_or_pos (i - ts.length) with q | q
      · exact q
      · rw [List.getElem?_eq_none (by simp; (first | lia | omega))] at hu; cases hu
    rw [hi'] at hu
    have : i = ts.length := by (first | lia | omega)
    simp at hu
    subst hu; subst this
    exact ⟨h1, h2, h3, h4⟩⟩
theorem ext_self {row : List Int} {ts : List TK} (hr : row.length = 3) (T : TsOk ts) {i : Nat} {t : TK} (h : ts[i]? = some t) : atP (ext row ts) ((3 + i : Nat) : Int) = b01 (linH t (ext row ts)) := by
  have e := ext_at (row := row) h
  rw [hr] at e
  rw [e]
  congr 1
  obtain ⟨hi, _⟩ := List.getElem?_eq_some_iff.mp h
  refine linH_congr fun x hx => ?_
  obtain ⟨h1, h2⟩ := (T.ok i t h).2.2.1 x hx
  have := atP_ext (row := row) (ts := ts.take i) (us := ts.drop i) h1 (by rw [hr, List.length_take]; (first | lia | omega))
  rw [List.take_append_drop] at this
  exact this.symm

/-! sums -/
theorem sum_one {f g : Int → Int} {e v : Int} (hg : ∀ x, g x = if e = x then v else f x) (hf : f e = 0) (w : Int → Int) : ∀ N : Nat, (0 ≤ e ∧ e < N → ((List.range N).map fun (x : Nat) => g x * w x).sum = v * w e + ((List.range N).map fun (x : Nat) => f x * w x).sum) ∧ (¬ (0 ≤ e ∧ e < N) → ((List.range N).map fun (x : Nat) => g x * w x).sum = ((List.range N).map fun (x : Nat) => f x * w x).sum)
  | 0 => ⟨fun h => by (first | lia | omega), fun _ => rfl⟩
  | N + 1 => by
    obtain ⟨h1, h2⟩ := sum_one hg hf w N
    simp only [List.range_succ, List.map_append, List.sum_append, List.map_cons, List.map_nil, List.sum_cons, List.sum_nil]
    by_cases q : e = N
    · have h2' := h2 (by (first | lia | omega))
      have : g N = v := by rw [hg, if_pos q]
      rw [this, h2']
      have hf' : f N = 0 := by rw [← q]; exact hf
      rw [hf', ← q]
      refine ⟨fun _ => by (first | lia | omega), fun h => absurd ⟨by (first | lia | omega), by (first | lia | omega)⟩ h⟩
    · have : g N = f N := by rw [hg, if_neg q]
      rw [this]
      refine ⟨fun h => by rw [h1 ⟨h.1, by (first | lia | omega)⟩]; (first | lia | omega), fun h => by rw [h2 fun h' => h ⟨h'.1, by (first | lia | omega)⟩]⟩
noncomputable def evN (N : Nat) (s : Sm) (w : Int → Int) : Int := s.k + ((List.range N).map fun (x : Nat) => cf s.parts x * w x).sum
noncomputable def ev (s : Sm) (w : Int → Int) : Int := s.k + (s.parts.map fun p => p.2 * w p.1).sum
theorem ev_evN {N : Nat} {s : Sm} (nd : (s.parts.map (·.1)).Nodup) (hx : ∀ p ∈ s.parts, 0 ≤ p.1 ∧ p.1 < N) (w : Int → Int) : ev s w = evN N s w := by
  obtain ⟨ps, k⟩ := s
  unfold ev evN
  simp only at nd hx ⊢
  congr 1
  induction ps with
  | nil =>
    have : ∀ (l : List Nat), (l.map fun (x : Nat) => cf [] x * w x).sum = 0 := fun l => by
      induction l with
      | nil => rfl
      | cons a l ih => rw [List.map_cons, List.sum_cons, ih]; simp [cf, getI_nil]
    rw [this]; rfl
  | cons e d ih =>
    rw [List.map_cons, List.nodup_cons] at nd
    have h1 := hx e List.mem_cons_self
    rw [List.map_cons, List.sum_cons, ih nd.2 fun p hp => hx p (List.mem_cons_of_mem _ hp)]
    have := (sum_one (f := cf d) (g := cf (e :: d)) (e := e.1) (v := e.2) (fun x => cf_cons e d x) (cf_not nd.1) w N).1 h1
    rw [this]
theorem evN_plus {N : Nat} {a b s : Sm} {f : Int} (h : PlusR a b f s) (w : Int → Int) : evN N s w = evN N a w + f * evN N b w := by
  unfold evN
  rw [h.k]
  have : ∀ (l : List Nat), (l.map fun (x : Nat) => cf s.parts x * w x).sum = (l.map fun (x : Nat) => cf a.parts x * w x).sum + f * (l.map fun (x : Nat) => cf b.parts x * w x).sum := fun l => by
    induction l with
    | nil => simp
    | cons y l ih =>
      simp only [List.map_cons, List.sum_cons, ih, h.cf_ y]
      rw [Int.add_mul, Int.mul_add, Int.mul_assoc]; (first | lia | omega)
  rw [this, Int.mul_add]; (first | lia | omega)
theorem PlusR.keys {a b s : Sm} {f : Int} (h : PlusR a b f s) : ∀ p ∈ s.parts, p.1 ∈ a.parts.map (·.1) ∨ p.1 ∈ b.parts.map (·.1) := by
  rintro ⟨x, v⟩ hp
  have h1 : cf s.parts x = v := by unfold cf; rw [(getI_mem h.nd).mpr hp]; rfl
  have h2 := h.cf_ x
  rw [h1] at h2
  by_cases q1 : x ∈ a.parts.map (·.1)
  · exact .inl q1
  by_cases q2 : x ∈ b.parts.map (·.1)
  · exact .inr q2
  rw [cf_not q1, cf_not q2] at h2
  have := h.nz _ hp
  simp only at this
  exact absurd (by (first | lia | omega)) this

/-! part D3 -/
noncomputable def Hull (b : Base) (vals : List Int) (N : Nat) : Prop := ∀ x : Nat, x < N → lo (b.dom x) ≤ atP vals x ∧ atP vals x ≤ hi (b.dom x)
noncomputable def relB (k : Rk) (v : Int) : Bool := match k with
  | .le => decide (v ≤ 0)
  | .eq => decide (v = 0)
  | .ne => !decide (v = 0)
section
variable {b : Base} {vals : List Int} {N : Nat} {s : Sm}
theorem mn_mx (H : Hull b vals N) {p : Int × Int} (h : 0 ≤ p.1 ∧ p.1 < N) : mnOf b p ≤ p.2 * atP vals p.1 ∧ p.2 * atP vals p.1 ≤ mxOf b p := by
  obtain ⟨h1, h2⟩ := H p.1.toNat (by (first | lia | omega))
  have e : ((p.1.toNat : Nat) : Int) = p.1 := by (first | lia | omega)
  rw [e] at h1 h2
  unfold mnOf mxOf
  generalize lo (b.dom p.1.toNat) = l at h1 ⊢
  generalize hi (b.dom p.1.toNat) = u at h2 ⊢
  generalize atP vals p.1 = v at h1 h2 ⊢
  generalize p.2 = a
  by_cases ha : 0 ≤ a
  · have q1 := Int.mul_le_mul_of_nonneg_left h1 ha
    have q2 := Int.mul_le_mul_of_nonneg_left h2 ha
    constructor
    · split <;> (first | lia | omega)
    · split <;> (first | lia | omega)
  · have q1 := Int.mul_le_mul_of_nonpos_left (a := a) (by (first | lia | omega)) h1
    have q2 := Int.mul_le_mul_of_nonpos_left (a := a) (by (first | lia | omega)) h2
    constructor
    · split <;> (first | lia | omega)
    · split <;> (first | lia | omega)
theorem low_high (H : Hull b vals N) (hx : ∀ p ∈ s.parts, 0 ≤ p.1 ∧ p.1 < N) : lowOf b s ≤ ev s (atP vals) ∧ ev s (atP vals) ≤ highOf b s := by
  obtain ⟨ps, k⟩ := s
  unfold lowOf highOf ev
  simp only at hx ⊢
  have : (ps.map (mnOf b)).sum ≤ (ps.map fun p => p.2 * atP vals p.1).sum ∧ (ps.map fun p => p.2 * atP vals p.1).sum ≤ (ps.map (mxOf b)).sum := by
    induction ps with
    | nil => simp
    | cons p ps ih =>
      obtain ⟨h1, h2⟩ := ih fun q hq => hx q (List.mem_cons_of_mem _ hq)
      obtain ⟨h3, h4⟩ := mn_mx H (hx p List.mem_cons_self)
      simp only [List.map_cons, List.sum_cons]
      (first | lia | omega)
  (first | lia | omega)
theorem linS_div {g : Int} : ∀ (ps : List (Int × Int)), (∀ p ∈ ps, g ∣ p.2) → linS (ps.map fun p => p.2.fdiv g) (ps.map (·.1)) vals * g = (ps.map fun p => p.2 * atP vals p.1).sum
  | [], _ => by simp [linS]
  | p :: ps, h => by
    have ih := linS_div ps fun q hq => h q (List.mem_cons_of_mem _ hq)
    unfold linS at ih ⊢
    simp only [List.map_cons, List.zipWith_cons_cons, List.sum_cons]
    rw [Int.add_mul, ih]
    obtain ⟨d, hd⟩ := h p List.mem_cons_self
    congr 1
    by_cases hg : g = 0
    · subst hg; simp at hd; simp [hd]
    · rw [hd, Int.mul_fdiv_cancel_left _ hg, Int.mul_right_comm, Int.mul_comm d g]
theorem gcds_dvd' (ps : List (Int × Int)) : ∀ p ∈ ps, gcds (ps.map (·.2)) ∣ p.2 := fun p hp => by
  have := (gcds_dvd (ps.map (·.2)) 0).2 p.2 (List.mem_map.mpr ⟨p, hp, rfl⟩)
  unfold gcds
  exact Int.ofNat_dvd_left.mpr this
theorem eq_ne_le : ¬ (Rk.s .eq = Rk.s .le) := by decide +kernel
theorem ne_ne_le : ¬ (Rk.s .ne = Rk.s .le) := by decide +kernel
theorem tolds_sem {k : Rk} (hg : 0 < gcds (s.parts.map (·.2))) (hk : k ≠ .le → (-s.k).fmod (gcds (s.parts.map (·.2))) = 0) : linH (tolds k s) vals = relB k (ev s (atP vals)) := by
  have hL := linS_div (vals := vals) s.parts (gcds_dvd' s.parts)
  unfold ev
  rw [← hL]
  unfold tolds linH
  simp only
  generalize gcds (s.parts.map (·.2)) = g at *
  generalize linS (s.parts.map fun p => p.2.fdiv g) (s.parts.map (·.1)) vals = L
  have key : k ≠ .le → (L = (-s.k).fdiv g ↔ s.k + L * g = 0) := fun q => by
    have h1 := Int.mul_fdiv_add_fmod (-s.k) g
    rw [hk q] at h1
    constructor
    · intro e
      rw [← e] at h1
      have : L * g = g * L := Int.mul_comm _ _
      (first | lia | omega)
    · intro e
      have : g * ((-s.k).fdiv g) = g * L := by have : L * g = g * L := Int.mul_comm _ _; (first | lia | omega)
      exact (Int.eq_of_mul_eq_mul_left (by (first | lia | omega)) this).symm
  cases k with
  | le =>
    rw [if_pos rfl]
    show decide _ = decide _
    rw [decide_eq_decide, Int.fdiv_eq_ediv_of_nonneg _ (by (first | lia | omega)), Int.le_ediv_iff_mul_le hg]
    (first | lia | omega)
  | eq =>
    rw [if_neg eq_ne_le, show kindOf_ (Rk.s .eq) = true from s_eq_eq]
    show (decide _ == true) = decide _
    rw [beq_true, decide_eq_decide]
    exact key (by decide)
  | ne =>
    rw [if_neg ne_ne_le, show kindOf_ (Rk.s .ne) = false from s_ne_eq]
    show (decide _ == false) = !decide _
    rw [beq_false, decide_eq_decide.mpr (key (by decide))]
theorem rowF_sem (H : Hull b vals N) (hx : ∀ p ∈ s.parts, 0 ≤ p.1 ∧ p.1 < N) (hnz : ∀ p ∈ s.parts, p.2 ≠ 0) (hB : ∀ p ∈ s.parts, Bd p.2) {k : Rk} :
    (∀ r, rowF b k s = .inl r → r = relB k (ev s (atP vals))) ∧ (∀ t, rowF b k s = .inr t → linH t vals = relB k (ev s (atP vals))) := by
  obtain ⟨h1, h2⟩ := low_high H hx
  constructor
  · intro r hr
    unfold rowF at hr
    split at hr
    · rename_i hk
      subst hk
      split at hr
      · rename_i hc
        cases hr
        show decide _ = decide _
        rw [decide_eq_decide]; (first | lia | omega)
      · cases hr
    · rename_i hk
      split at hr
      · rename_i hc
        cases hr
        have hv : ev s (atP vals) ≠ 0 := by (first | lia | omega)
        cases k with
        | le => exact absurd rfl hk
        | eq => show decide _ = decide _; rw [decide_eq_false hv]; rfl
        | ne => show decide _ = !decide _; rw [decide_eq_false hv]; rfl
      · rename_i hc
        split at hr
        · rename_i he
          cases hr
          have hv : ev s (atP vals) = 0 := by (first | lia | omega)
          cases k with
          | le => exact absurd rfl hk
          | eq => show decide _ = decide _; rw [decide_eq_true hv]; rfl
          | ne => show decide _ = !decide _; rw [decide_eq_true hv]; rfl
        · split at hr
          · rename_i hm
            cases hr
            have hv : ev s (atP vals) ≠ 0 := fun e => hm (by
              have hL := linS_div (vals := vals) s.parts (gcds_dvd' s.parts)
              unfold ev at e
              rw [← hL] at e
              have : -s.k = gcds (s.parts.map (·.2)) * linS (s.parts.map fun p => p.2.fdiv (gcds (s.parts.map (·.2)))) (s.parts.map (·.1)) vals := by
                rw [Int.mul_comm]; (first | lia | omega)
              rw [this, Int.mul_fmod_right])
            cases k with
            | le => exact absurd rfl hk
            | eq => show decide _ = decide _; rw [decide_eq_false hv]; rfl
            | ne => show decide _ = !decide _; rw [decide_eq_false hv]; rfl
          · cases hr
  · intro t ht
    obtain ⟨rfl, hp⟩ := rowF_inr ht
    refine tolds_sem (gcds_pos hp hnz hB).1 fun hk => ?_
    unfold rowF at ht
    rw [if_neg hk] at ht
    split at ht
    · cases ht
    · split at ht
      · cases ht
      · split at ht
        · cases ht
        · rename_i hm
          exact Decidable.not_not.mp hm
end

/-! part D4 -/
structure RowGood (b : Base) (row : List Int) : Prop where
  len : row.length = 3
  hull : Hull b row 3
theorem RowGood.ext {b : Base} {row : List Int} (R : RowGood b row) (ts : List TK) : Hull b (ext row ts) (3 + ts.length) := fun x hx => by
  by_cases h3 : x < 3
  · have h := R.hull x h3
    have e := atP_ext (row := row) (ts := []) (us := ts) (x := (x : Int)) (by (first | lia | omega)) (by rw [R.len]; simp; (first | lia | omega))
    rw [List.nil_append] at e
    rw [e]; exact h
  · obtain ⟨q, rfl⟩ : ∃ q, x = 3 + q := ⟨x - 3, by (first | lia | omega)⟩
    have hq : q < ts.length := by (first | lia | omega)
    have e := ext_at (row := row) (List.getElem?_eq_getElem hq)
    rw [R.len] at e
    rw [e, dom_ge b (by (first | lia | omega))]
    unfold b01
    show (0 : Int) ≤ _ ∧ _ ≤ (1 : Int)
    split <;> (first | lia | omega)
noncomputable def trH (vals : List Int) : Tr → Bool
  | .bool b => b
  | .bit x u => decide (atP vals x = 1) == u
noncomputable def trIn (N : Nat) : Tr → Prop
  | .bool _ => True
  | .bit x _ => 0 ≤ x ∧ x < N
theorem trH_no (vals : List Int) (tr : Tr) : trH vals tr.no = !trH vals tr := by
  cases tr with
  | bool b => rfl
  | bit x u => show (_ == !u) = !(_ == u); cases decide (atP vals x = 1) <;> cases u <;> rfl
theorem trIn_no {N : Nat} {tr : Tr} (h : trIn N tr) : trIn N tr.no := by cases tr <;> exact h
theorem ev_congr {s : Sm} {w w' : Int → Int} (h : ∀ p ∈ s.parts, w p.1 = w' p.1) : ev s w = ev s w' := by
  unfold ev
  congr 1
  congr 1
  exact List.map_congr_left fun p hp => by rw [h p hp]
theorem posOf_some {ts : List TK} {k : TK} {i : Nat} (h : posOf ts k = some i) : ts[i]? = some k := by
  unfold posOf at h
  obtain ⟨hi, h1, _⟩ := List.findIdx?_eq_some_iff_getElem.mp h
  rw [List.getElem?_eq_getElem hi, of_decide_eq_true h1]
section
variable {b : Base} {ts : List TK}
structure TrSem (b : Base) (ts : List TK) (r : Tr × List TK) (P : List Int → Bool) : Prop where
  ok : TsOk r.2
  app : ∃ us, r.2 = ts ++ us ∧ us.length ≤ 1
  vars : trIn (3 + r.2.length) r.1
  sem : ∀ row, RowGood b row → trH (ext row r.2) r.1 = P (ext row r.2)
theorem ttF_sem (T : TsOk ts) {k : TK} {r : Rk} (hr : k.1 = r.s) (hne : r ≠ .ne) (hl : k.2.1.length = k.2.2.1.length) (hx : ∀ x ∈ k.2.2.1, 0 ≤ x ∧ x < ((3 + ts.length : Nat) : Int)) (h9 : k.2.2.1.length < 900)
    (hsc : k.2.1 = [1] → b.dom (k.2.2.1.head?.getD 0).toNat = [(0, 1)] → (r = .le → k.2.2.2 = 0) ∧ (r = .eq → k.2.2.2 = 0 ∨ k.2.2.2 = 1)) : TrSem b ts (ttF b ts k) (linH k) := by
  obtain ⟨kd, cs, xs, cc⟩ := k
  simp only at hr hl hx hsc h9
  subst hr
  unfold ttF
  simp only
  split
  · rename_i hc
    obtain ⟨hc1, hc2⟩ := hc
    subst hc1
    obtain ⟨x, rfl⟩ : ∃ x, xs = [x] := by
      match xs, hl with
      | [x], _ => exact ⟨x, rfl⟩
    simp only [List.head?_cons, Option.getD_some] at hc2 hsc ⊢
    have h1 := hx x List.mem_cons_self
    refine ⟨T, ⟨[], by simp, by simp⟩, h1, fun row R => ?_⟩
    obtain ⟨q1, q2⟩ := R.ext ts x.toNat (by (first | lia | omega))
    have e : ((x.toNat : Nat) : Int) = x := by (first | lia | omega)
    rw [hc2, e] at q1 q2
    have q1 : 0 ≤ atP (ext row ts) x := q1
    have q2 : atP (ext row ts) x ≤ 1 := q2
    obtain ⟨s1, s2⟩ := hsc trivial hc2
    have hs : linS [1] [x] (ext row ts) = atP (ext row ts) x := by simp [linS]
    show (decide (atP (ext row ts) x = 1) == (kindOf_ r.s && decide (cc = 1))) = linH (r.s, [1], [x], cc) (ext row ts)
    unfold linH
    simp only [hs]
    generalize atP (ext row ts) x = v at q1 q2
    cases r with
    | ne => exact absurd rfl hne
    | le =>
      rw [s1 rfl, if_pos rfl, show kindOf_ (Rk.s .le) = false from s_le_eq]
      have : v = 0 ∨ v = 1 := by (first | lia | omega)
      rcases this with rfl | rfl <;> rfl
    | eq =>
      rw [if_neg eq_ne_le, show kindOf_ (Rk.s .eq) = true from s_eq_eq]
      have : v = 0 ∨ v = 1 := by (first | lia | omega)
      rcases this with rfl | rfl <;> rcases s2 rfl with rfl | rfl <;> rfl
  · split
    · rename_i i hi
      have hat := posOf_some hi
      obtain ⟨hlt, _⟩ := List.getElem?_eq_some_iff.mp hat
      refine ⟨T, ⟨[], by simp, by simp⟩, ⟨by (first | lia | omega), by simp only; (first | lia | omega)⟩, fun row R => ?_⟩
      have := ext_self R.len T hat
      show (decide (atP (ext row ts) ((3 + i : Nat) : Int) = 1) == true) = linH (r.s, cs, xs, cc) (ext row ts)
      rw [this]
      cases linH (r.s, cs, xs, cc) (ext row ts) <;> rfl
    · have T' := T.snoc (t := (r.s, cs, xs, cc)) ⟨r, rfl⟩ hl hx h9
      refine ⟨T', ⟨_, rfl, by simp⟩, ⟨by (first | lia | omega), by simp only [List.length_append, List.length_singleton]; (first | lia | omega)⟩, fun row R => ?_⟩
      have hat : (ts ++ [(r.s, cs, xs, cc)])[ts.length]? = some (r.s, cs, xs, cc) := by rw [List.getElem?_append_right (Nat.le_refl _)]; simp
      have := ext_self R.len T' hat
      show (decide (atP (ext row (ts ++ [(r.s, cs, xs, cc)])) ((3 + ts.length : Nat) : Int) = 1) == true) = _
      rw [this]
      cases linH (r.s, cs, xs, cc) (ext row (ts ++ [(r.s, cs, xs, cc)])) <;> rfl
theorem linS_neg : ∀ (cs xs : List Int) (vals : List Int), linS (neg_ cs) xs vals = - linS cs xs vals
  | [], _, _ => by simp [linS, neg_]
  | _ :: _, [], _ => by simp [linS, neg_]
  | a :: cs, x :: xs, vals => by
    have ih := linS_neg cs xs vals
    unfold linS neg_ at ih ⊢
    simp only [List.map_cons, List.zipWith_cons_cons, List.sum_cons]
    rw [ih, Int.neg_mul]; (first | lia | omega)
theorem neg_len (cs : List Int) : (neg_ cs).length = cs.length := by simp [neg_]
theorem linH_turn {r : Rk} {cs xs : List Int} {c : Int} (vals : List Int) (h : r = .eq) : linH (r.s, neg_ cs, xs, -c) vals = linH (r.s, cs, xs, c) vals := by
  subst h
  unfold linH
  simp only [linS_neg]
  rw [if_neg eq_ne_le, if_neg eq_ne_le, show kindOf_ (Rk.s .eq) = true from s_eq_eq, beq_true, beq_true, decide_eq_decide]
  (first | lia | omega)
theorem linH_flip {cs xs : List Int} {c : Int} (vals : List Int) : linH (Rk.s .le, neg_ cs, xs, -c - 1) vals = !linH (Rk.s .le, cs, xs, c) vals := by
  unfold linH
  simp only [linS_neg, ↓reduceIte]
  rw [← decide_not, decide_eq_decide]
  (first | lia | omega)
theorem rowF_bds {k : Rk} {s : Sm} {t : TK} (h : rowF b k s = .inr t) : (k = .le → lowOf b s ≤ 0 ∧ 0 < highOf b s) ∧ (k ≠ .le → lowOf b s ≤ 0 ∧ 0 ≤ highOf b s) := by
  unfold rowF at h
  constructor
  · intro q
    rw [if_pos q] at h
    split at h
    · cases h
    · (first | lia | omega)
  · intro q
    rw [if_neg q] at h
    split at h
    · cases h
    · (first | lia | omega)
theorem low1 {p : Int × Int} {k : Int} (hd : b.dom p.1.toNat = [(0, 1)]) : lowOf b ⟨[p], k⟩ = k + (if p.2 < 0 then p.2 else 0) ∧ highOf b ⟨[p], k⟩ = k + (if 0 < p.2 then p.2 else 0) := by
  unfold lowOf highOf mnOf mxOf
  simp only [List.map_cons, List.map_nil, List.sum_cons, List.sum_nil, hd]
  have h1 : lo [((0 : Int), (1 : Int))] = 0 := rfl
  have h2 : hi [((0 : Int), (1 : Int))] = 1 := rfl
  rw [h1, h2]
  simp
theorem fdiv_self' {g : Int} (h : 0 < g) {a : Int} (hd : g ∣ a) : a.fdiv g * g = a := by
  obtain ⟨d, rfl⟩ := hd
  rw [Int.mul_fdiv_cancel_left _ (by (first | lia | omega)), Int.mul_comm]
theorem rtF0_sem (T : TsOk ts) {s : Sm} (hs : SmOk ts s) (h9 : s.parts.length < 900) {k : Rk} (hk : k ≠ .ne) : TrSem b ts (rtF0 b ts k s) (fun vals => relB k (ev s (atP vals))) := by
  have sem : ∀ us row, RowGood b row → (∀ r, rowF b k s = .inl r → r = relB k (ev s (atP (ext row (ts ++ us))))) ∧ (∀ t, rowF b k s = .inr t → linH t (ext row (ts ++ us)) = relB k (ev s (atP (ext row (ts ++ us))))) := fun us row R =>
    rowF_sem (R.ext (ts ++ us)) (fun p hp => ⟨(hs.x p hp).1, by have := (hs.x p hp).2; rw [List.length_append]; (first | lia | omega)⟩) hs.nz hs.bd
  unfold rtF0
  cases hr : rowF b k s with
  | inl r =>
    refine ⟨T, ⟨[], by simp, by simp⟩, trivial, fun row R => ?_⟩
    have := (sem [] row R).1 r hr
    rw [List.append_nil] at this
    exact this
  | inr t =>
    obtain ⟨rfl, hp⟩ := rowF_inr hr
    have hg := (gcds_pos hp hs.nz hs.bd).1
    have hdv := gcds_dvd' s.parts
    have hxs : ∀ x ∈ s.parts.map (·.1), 0 ≤ x ∧ x < ((3 + ts.length : Nat) : Int) := fun x hx => by
      obtain ⟨p, hp', rfl⟩ := List.mem_map.mp hx
      have := hs.x p hp'; (first | lia | omega)
    have hrow := rowF_bds hr
    generalize hgg : gcds (s.parts.map (·.2)) = g at hg hdv
    have htold : tolds k s = (k.s, s.parts.map fun p => p.2.fdiv g, s.parts.map (·.1), (-s.k).fdiv g) := by unfold tolds; rw [hgg]
    have fin : ∀ {r : Tr × List TK} {P : List Int → Bool}, TrSem b ts r P → (∀ vals, P vals = linH (tolds k s) vals) → TrSem b ts r (fun vals => relB k (ev s (atP vals))) := fun h e => ⟨h.ok, h.app, h.vars, fun row R => by
      obtain ⟨us, hu, _⟩ := h.app
      have h2 := (sem us row R).2 _ hr
      rw [← hu] at h2
      rw [h.sem row R, e, h2]⟩
    obtain ⟨p0, ps, hps⟩ : ∃ p0 ps, s.parts = p0 :: ps := by cases q : s.parts with
      | nil => exact absurd q hp
      | cons p0 ps => exact ⟨p0, ps, rfl⟩
    have hhead : (tolds k s).2.1.head?.getD 0 = p0.2.fdiv g := by rw [htold, hps]; rfl
    have hp0 := fdiv_self' hg (hdv p0 (by rw [hps]; exact List.mem_cons_self))
    have hp0n := hs.nz p0 (by rw [hps]; exact List.mem_cons_self)
    have one : ∀ {d : Int}, (s.parts.map fun p => p.2.fdiv g) = [d] → b.dom ((s.parts.map fun (p : Int × Int) => p.1).head?.getD 0).toNat = [(0, 1)] → p0.2.fdiv g = d ∧ s = ⟨[p0], s.k⟩ ∧ b.dom p0.1.toNat = [(0, 1)] := fun {d} h1 h2 => by
      rw [hps] at h1 h2
      cases ps with
      | nil =>
        refine ⟨by simpa using h1, ?_, by simpa using h2⟩
        obtain ⟨parts, kk⟩ := s
        simp only at hps ⊢
        rw [hps]
      | cons _ _ => simp at h1
    have hfd := Int.mul_fdiv_add_fmod (-s.k) g
    have hfm0 := Int.fmod_nonneg_of_pos (-s.k) hg
    have hfm1 := Int.fmod_lt_of_pos (-s.k) hg
    dsimp only
    split
    · rename_i hc
      obtain ⟨hc1, rfl⟩ := hc
      rw [hhead] at hc1
      rw [htold]
      have S := ttF_sem (b := b) T (k := (Rk.s .le, neg_ (s.parts.map fun p => p.2.fdiv g), s.parts.map (·.1), -((-s.k).fdiv g) - 1)) (r := .le) rfl (by decide) (by simp [neg_len]) hxs (by simpa using h9) (fun q1 q2 => by
        have q1' : (s.parts.map fun p => p.2.fdiv g) = [-1] := by
          have := congrArg neg_ q1
          simpa [neg_] using this
        obtain ⟨w1, w2, w3⟩ := one q1' q2
        refine ⟨fun _ => ?_, fun q => by cases q⟩
        obtain ⟨l1, l2⟩ := low1 (b := b) (k := s.k) w3
        rw [← w2] at l1 l2
        rw [w1] at hp0
        have hp2 : p0.2 = -g := by (first | lia | omega)
        rw [hp2, if_pos (by (first | lia | omega))] at l1
        rw [hp2, if_neg (by (first | lia | omega))] at l2
        have hlh := hrow.1 rfl
        · have : (-s.k).fdiv g = -1 := by
            have e1 : g * (-s.k).fdiv g ≤ -s.k := by (first | lia | omega)
            have e2 : -s.k < g * ((-s.k).fdiv g + 1) := by rw [Int.mul_add]; (first | lia | omega)
            generalize (-s.k).fdiv g = D at e1 e2
            have a1 : D < 0 := by
              rcases Int.lt_or_le D 0 with q | q
              · exact q
              · have := Int.mul_nonneg (show 0 ≤ g by (first | lia | omega)) q; (first | lia | omega)
            have a2 : 0 ≤ D + 1 := by
              rcases Int.lt_or_le (D + 1) 0 with q | q
              · have h1 : D + 1 ≤ -1 := by (first | lia | omega)
                have := Int.mul_le_mul_of_nonneg_left h1 (show 0 ≤ g by (first | lia | omega))
                (first | lia | omega)
              · exact q
            (first | lia | omega)
          show -((-s.k).fdiv g) - 1 = 0
          (first | lia | omega))
      refine fin (r := (_, _)) ⟨S.ok, S.app, trIn_no S.vars, fun row R => ?_⟩ (P := linH (tolds .le s)) fun _ => rfl
      rw [trH_no, S.sem row R, linH_flip, Bool.not_not, htold]
    · rename_i hc
      rw [hhead] at hc ⊢
      have hne0 : p0.2.fdiv g ≠ 0 := fun e => by rw [e] at hp0; (first | lia | omega)
      split
      · rename_i hpos
        rw [htold]
        have S := ttF_sem (b := b) T (k := (k.s, s.parts.map fun p => p.2.fdiv g, s.parts.map (·.1), (-s.k).fdiv g)) (r := k) rfl hk (by simp) hxs (by simpa using h9) (fun q1 q2 => by
          obtain ⟨w1, w2, w3⟩ := one q1 q2
          obtain ⟨l1, l2⟩ := low1 (b := b) (k := s.k) w3
          rw [← w2] at l1 l2
          rw [w1] at hp0
          have hp2 : p0.2 = g := by (first | lia | omega)
          rw [hp2, if_neg (by (first | lia | omega))] at l1
          rw [hp2, if_pos hg] at l2
          have e1 : g * (-s.k).fdiv g ≤ -s.k := by (first | lia | omega)
          have e2 : -s.k < g * ((-s.k).fdiv g + 1) := by rw [Int.mul_add]; (first | lia | omega)
          have b1 : -s.k < g → (-s.k).fdiv g < 1 := fun q => by
            rcases Int.lt_or_le ((-s.k).fdiv g) 1 with q' | q'
            · exact q'
            · have := Int.mul_le_mul_of_nonneg_left q' (show 0 ≤ g by (first | lia | omega)); (first | lia | omega)
          have b2 : 0 ≤ -s.k → 0 ≤ (-s.k).fdiv g := fun q => by
            rcases Int.lt_or_le ((-s.k).fdiv g) 0 with q' | q'
            · have h1 : (-s.k).fdiv g + 1 ≤ 0 := by (first | lia | omega)
              have := Int.mul_le_mul_of_nonneg_left h1 (show 0 ≤ g by (first | lia | omega)); (first | lia | omega)
            · exact q'
          have b3 : -s.k ≤ g → (-s.k).fdiv g ≤ 1 := fun q => by
            rcases Int.lt_or_le ((-s.k).fdiv g) 2 with q' | q'
            · (first | lia | omega)
            · have := Int.mul_le_mul_of_nonneg_left q' (show 0 ≤ g by (first | lia | omega)); (first | lia | omega)
          refine ⟨fun q => ?_, fun q => ?_⟩
          · have hlh := hrow.1 q
            have := b1 (by (first | lia | omega)); have := b2 (by (first | lia | omega))
            show (-s.k).fdiv g = 0
            (first | lia | omega)
          · have hlh := hrow.2 (by rw [q]; decide)
            have := b2 (by (first | lia | omega)); have := b3 (by (first | lia | omega))
            show (-s.k).fdiv g = 0 ∨ (-s.k).fdiv g = 1
            (first | lia | omega))
        refine fin S fun _ => by rw [htold]
      · rename_i hpos
        have hke : k = .eq := by
          cases k with
          | le => exact absurd ⟨by (first | lia | omega), rfl⟩ hc
          | eq => rfl
          | ne => exact absurd rfl hk
        subst hke
        rw [htold]
        have S := ttF_sem (b := b) T (k := (Rk.s .eq, neg_ (s.parts.map fun p => p.2.fdiv g), s.parts.map (·.1), -((-s.k).fdiv g))) (r := .eq) rfl (by decide) (by simp [neg_len]) hxs (by simpa using h9) (fun q1 q2 => by
          have q1' : (s.parts.map fun p => p.2.fdiv g) = [-1] := by
            have := congrArg neg_ q1
            simpa [neg_] using this
          obtain ⟨w1, w2, w3⟩ := one q1' q2
          refine ⟨fun q => by (cases q), fun _ => ?_⟩
          obtain ⟨l1, l2⟩ := low1 (b := b) (k := s.k) w3
          rw [← w2] at l1 l2
          rw [w1] at hp0
          have hp2 : p0.2 = -g := by (first | lia | omega)
          rw [hp2, if_pos (by (first | lia | omega))] at l1
          rw [hp2, if_neg (by (first | lia | omega))] at l2
          have hlh := hrow.2 (by decide)
          · have e1 : g * (-s.k).fdiv g ≤ -s.k := by (first | lia | omega)
            have e2 : -s.k < g * ((-s.k).fdiv g + 1) := by rw [Int.mul_add]; (first | lia | omega)
            generalize (-s.k).fdiv g = D at e1 e2
            have a1 : D ≤ 0 := by
              rcases Int.lt_or_le D 1 with q | q
              · (first | lia | omega)
              · have := Int.mul_le_mul_of_nonneg_left q (show 0 ≤ g by (first | lia | omega)); (first | lia | omega)
            have a2 : -1 ≤ D := by
              rcases Int.lt_or_le D (-1) with q | q
              · have h1 : D + 1 ≤ -1 := by (first | lia | omega)
                have := Int.mul_le_mul_of_nonneg_left h1 (show 0 ≤ g by (first | lia | omega))
                (first | lia | omega)
              · exact q
            show -D = 0 ∨ -D = 1
            (first | lia | omega))
        refine fin S fun vals => by rw [htold]; exact linH_turn vals rfl
theorem rtF_sem (T : TsOk ts) {s : Sm} (hs : SmOk ts s) (h9 : s.parts.length < 900) {k : Rk} : TrSem b ts (rtF b ts k s) (fun vals => relB k (ev s (atP vals))) := by
  unfold rtF
  split
  · rename_i hk
    subst hk
    cases hr : rowF b .ne s with
    | inl r =>
      refine ⟨T, ⟨[], by simp, by simp⟩, trivial, fun row R => ?_⟩
      exact (rowF_sem (R.ext ts) (fun p hp => ⟨(hs.x p hp).1, by have := (hs.x p hp).2; (first | lia | omega)⟩) hs.nz hs.bd).1 r hr
    | inr t =>
      have S := rtF0_sem (b := b) T hs h9 (k := .eq) (by decide)
      refine ⟨S.ok, S.app, trIn_no S.vars, fun row R => ?_⟩
      dsimp only
      rw [trH_no, S.sem row R]; rfl
  · rename_i hk
    exact rtF0_sem T hs h9 hk
end

/-! part D5 -/
theorem pig : ∀ (N : Nat) (l : List Int), l.Nodup → (∀ x ∈ l, 0 ≤ x ∧ x < N) → l.length ≤ N
  | 0, l, _, h => by
    cases l with
    | nil => simp
    | cons x l => have := h x List.mem_cons_self; (first | lia | omega)
  | N + 1, l, nd, h => by
    have ih := pig N (l.erase (N : Int)) (nd.erase _) fun x hx => by
      have hx' := (nd.mem_erase_iff).mp hx
      have := h x hx'.2
      have := hx'.1
      (first | lia | omega)
    have : l.length ≤ (l.erase (N : Int)).length + 1 := by
      rw [List.length_erase]; split <;> (first | lia | omega)
    (first | lia | omega)
structure SmB (N : Nat) (C : Int) (s : Sm) : Prop where
  nd : (s.parts.map (·.1)).Nodup
  nz : ∀ p ∈ s.parts, p.2 ≠ 0
  x : ∀ p ∈ s.parts, 0 ≤ p.1 ∧ p.1 < N
  c : ∀ x, -C ≤ cf s.parts x ∧ cf s.parts x ≤ C
  k : -C ≤ s.k ∧ s.k ≤ C
theorem SmB.len {N : Nat} {C : Int} {s : Sm} (h : SmB N C s) : s.parts.length ≤ N := by
  have := pig N (s.parts.map (·.1)) h.nd fun x hx => by obtain ⟨p, hp, rfl⟩ := List.mem_map.mp hx; exact h.x p hp
  rwa [List.length_map] at this
theorem SmB.at {N : Nat} {C : Int} {s : Sm} (h : SmB N C s) {p : Int × Int} (hp : p ∈ s.parts) : -C ≤ p.2 ∧ p.2 ≤ C := by
  have h1 : cf s.parts p.1 = p.2 := by unfold cf; rw [(getI_mem h.nd).mpr hp]; rfl
  rw [← h1]; exact h.c p.1
theorem SmB.ok {ts : List TK} {C : Int} {s : Sm} (h : SmB (3 + ts.length) C s) (hC : C < 10 ^ 60) (hz : ts.length < 500) : SmOk ts s where
  nd := h.nd
  nz := h.nz
  x := fun p hp => by have := h.x p hp; (first | lia | omega)
  len := by have := h.len; (first | lia | omega)
  bd := fun p hp => by have := h.at hp; exact ⟨by (first | lia | omega), by (first | lia | omega)⟩
theorem SmB.mono {N N' : Nat} {C C' : Int} {s : Sm} (h : SmB N C s) (hN : N ≤ N') (hC : C ≤ C') : SmB N' C' s :=
  ⟨h.nd, h.nz, fun p hp => by have := h.x p hp; (first | lia | omega), fun x => by have := h.c x; (first | lia | omega), by have := h.k; (first | lia | omega)⟩
theorem mulb {f F y D : Int} (hf : -F ≤ f ∧ f ≤ F) (hD : 0 ≤ D) (hy : -D ≤ y ∧ y ≤ D) : -(F * D) ≤ f * y ∧ f * y ≤ F * D := by
  have hF : 0 ≤ F := by (first | lia | omega)
  have h1 : f.natAbs ≤ F.natAbs := by (first | lia | omega)
  have h2 : y.natAbs ≤ D.natAbs := by (first | lia | omega)
  have h3 : (f * y).natAbs ≤ (F * D).natAbs := by rw [Int.natAbs_mul, Int.natAbs_mul]; exact Nat.mul_le_mul h1 h2
  have h4 : 0 ≤ F * D := Int.mul_nonneg hF hD
  (first | lia | omega)
theorem SmB.plus {N : Nat} {C D F f : Int} {a b s : Sm} (ha : SmB N C a) (hb : SmB N D b) (hf : -F ≤ f ∧ f ≤ F) (hD : 0 ≤ D) (hp : PlusR a b f s) : SmB N (C + F * D) s where
  nd := hp.nd
  nz := hp.nz
  x := fun p hq => by
    rcases hp.keys p hq with h | h
    · obtain ⟨q, hq, e⟩ := List.mem_map.mp h; rw [← e]; exact ha.x q hq
    · obtain ⟨q, hq, e⟩ := List.mem_map.mp h; rw [← e]; exact hb.x q hq
  c := fun x => by
    rw [hp.cf_]
    have := ha.c x
    have := mulb hf hD (hb.c x)
    (first | lia | omega)
  k := by
    rw [hp.k]
    have := ha.k
    have := mulb hf hD hb.k
    (first | lia | omega)
theorem ev_plus {N : Nat} {C D : Int} {a b s : Sm} {f : Int} (ha : SmB N C a) (hb : SmB N D b) (hp : PlusR a b f s) (w : Int → Int) : ev s w = ev a w + f * ev b w := by
  rw [ev_evN (N := N) hp.nd (fun p hq => by
    rcases hp.keys p hq with h | h
    · obtain ⟨q, hq, e⟩ := List.mem_map.mp h; rw [← e]; exact ha.x q hq
    · obtain ⟨q, hq, e⟩ := List.mem_map.mp h; rw [← e]; exact hb.x q hq), ev_evN ha.nd ha.x, ev_evN hb.nd hb.x]
  exact evN_plus hp w
theorem SmB.int {N : Nat} {C : Int} (i : Int) (h : -C ≤ i ∧ i ≤ C) : SmB N C (Sv.int i).sm :=
  ⟨List.nodup_nil, (fun p hp => nomatch hp), (fun p hp => nomatch hp), fun x => by show -C ≤ cf [] x ∧ cf [] x ≤ C; simp only [cf, getI_nil]; show -C ≤ 0 ∧ 0 ≤ C; (first | lia | omega), h⟩
theorem ev_int (i : Int) (w : Int → Int) : ev (Sv.int i).sm w = i := by show i + (List.map _ []).sum = i; simp
theorem SmB.tr {N : Nat} {tr : Tr} (h : trIn N tr) : SmB N 1 (Sv.tr tr).sm := by
  have e1 : ∀ (x a y : Int), -1 ≤ a ∧ a ≤ 1 → -1 ≤ cf [(x, a)] y ∧ cf [(x, a)] y ≤ 1 := fun x a y ha => by
    rw [cf_cons]
    split
    · exact ha
    · simp [cf, getI_nil]
  cases tr with
  | bool b => exact SmB.int (if b then 1 else 0) (by split <;> (first | lia | omega))
  | bit x u =>
    cases u with
    | true => exact ⟨by simp [Sv.sm], fun p hp => by simp [Sv.sm] at hp; subst hp; show (1 : Int) ≠ 0; decide, fun p hp => by simp [Sv.sm] at hp; subst hp; exact h, fun y => e1 x 1 y (by (first | lia | omega)), by show (-1 : Int) ≤ 0 ∧ (0 : Int) ≤ 1; (first | lia | omega)⟩
    | false => exact ⟨by simp [Sv.sm], fun p hp => by simp [Sv.sm] at hp; subst hp; show (-1 : Int) ≠ 0; decide, fun p hp => by simp [Sv.sm] at hp; subst hp; exact h, fun y => e1 x (-1) y (by (first | lia | omega)), by show (-1 : Int) ≤ 1 ∧ (1 : Int) ≤ 1; (first | lia | omega)⟩
theorem ev_tr {b : Base} {row : List Int} (R : RowGood b row) {ts : List TK} {tr : Tr} (h01 : ∀ x u, tr = .bit x u → atP (ext row ts) x = 0 ∨ atP (ext row ts) x = 1) : ev (Sv.tr tr).sm (atP (ext row ts)) = b01 (trH (ext row ts) tr) := by
  cases tr with
  | bool b => show (if b then (1 : Int) else 0) + (List.map _ []).sum = b01 b; unfold b01; simp
  | bit x u =>
    have := h01 x u rfl
    generalize hv : atP (ext row ts) x = v at this
    cases u with
    | true =>
      show 0 + ([((x : Int), (1 : Int))].map fun p => p.2 * atP (ext row ts) p.1).sum = b01 (decide (atP (ext row ts) x = 1) == true)
      simp only [List.map_cons, List.map_nil, List.sum_cons, List.sum_nil, hv]
      rcases this with rfl | rfl <;> rfl
    | false =>
      show 1 + ([((x : Int), (-1 : Int))].map fun p => p.2 * atP (ext row ts) p.1).sum = b01 (decide (atP (ext row ts) x = 1) == false)
      simp only [List.map_cons, List.map_nil, List.sum_cons, List.sum_nil, hv]
      rcases this with rfl | rfl <;> rfl
/-- the truths are of numbers that are 0 or 1 -/
noncomputable def bitOk (b : Base) : Tr → Prop
  | .bool _ => True
  | .bit x _ => b.dom x.toNat = [(0, 1)]
theorem bitOk_no {b : Base} {tr : Tr} (h : bitOk b tr) : bitOk b tr.no := by cases tr <;> exact h
theorem ttF_bit {b : Base} {ts : List TK} {k : TK} : bitOk b (ttF b ts k).1 := by
  unfold ttF
  split
  · rename_i h; exact h.2
  · split
    · exact dom_ge b (by (first | lia | omega))
    · exact dom_ge b (by (first | lia | omega))
theorem rtF0_bit {b : Base} {ts : List TK} {k : Rk} {s : Sm} : bitOk b (rtF0 b ts k s).1 := by
  unfold rtF0
  split
  · trivial
  · split
    · exact bitOk_no ttF_bit
    · exact ttF_bit
theorem rtF_bit {b : Base} {ts : List TK} {k : Rk} {s : Sm} : bitOk b (rtF b ts k s).1 := by
  unfold rtF
  split
  · split
    · trivial
    · exact bitOk_no rtF0_bit
  · exact rtF0_bit
theorem bit01 {b : Base} {row : List Int} (R : RowGood b row) {ts : List TK} {tr : Tr} (hb : bitOk b tr) (hi : trIn (3 + ts.length) tr) : ∀ x u, tr = .bit x u → atP (ext row ts) x = 0 ∨ atP (ext row ts) x = 1 := by
  rintro x u rfl
  have hi' : 0 ≤ x ∧ x < ((3 + ts.length : Nat) : Int) := hi
  have hb' : b.dom x.toNat = [(0, 1)] := hb
  obtain ⟨q1, q2⟩ := R.ext ts x.toNat (by (first | lia | omega))
  have e : ((x.toNat : Nat) : Int) = x := by (first | lia | omega)
  rw [hb', e] at q1 q2
  have q1 : 0 ≤ atP (ext row ts) x := q1
  have q2 : atP (ext row ts) x ≤ 1 := q2
  (first | lia | omega)

noncomputable abbrev U : Int := 10 ^ 22
structure FoundR (b : Base) (R : List Int → Prop) (ts : List TK) (found : Sm) (J : Nat) (F : List Int → Int) : Prop where
  T : TsOk ts
  len : ts.length ≤ J
  sm : SmB (3 + ts.length) ((J + 1 : Nat) * U) found
  sem : ∀ row, R row → ev found (atP (ext row ts)) = F row
theorem FoundR.congr {b : Base} {R : List Int → Prop} {ts : List TK} {found : Sm} {J : Nat} {F F' : List Int → Int} (h : FoundR b R ts found J F) (e : ∀ row, R row → F row = F' row) : FoundR b R ts found J F' :=
  ⟨h.T, h.len, h.sm, fun row hr => (h.sem row hr).trans (e row hr)⟩
section
variable {b : Base} {R : List Int → Prop} {ts : List TK} {tot s1 : Sm} {c : Int}
theorem tot_minus (ht : SmB 3 U tot) (hc : -U ≤ c ∧ c ≤ U) (h1 : PlusR tot (Sv.int c).sm (-1) s1) : SmB 3 (U + 1 * U) s1 ∧ ∀ w, ev s1 w = ev tot w - c := by
  have hI := SmB.int (N := 3) c hc
  refine ⟨ht.plus hI (by (first | lia | omega)) (by decide) h1, fun w => ?_⟩
  rw [ev_plus ht hI h1, ev_int]; (first | lia | omega)
theorem ev_low {C : Int} {s : Sm} (h : SmB 3 C s) {row : List Int} (hr : row.length = 3) (ts : List TK) : ev s (atP (ext row ts)) = ev s (atP row) := ev_congr fun p hp => by
  have := h.x p hp
  have e := atP_ext (row := row) (ts := []) (us := ts) this.1 (by rw [hr]; simp; (first | lia | omega))
  rw [List.nil_append] at e
  exact e
theorem FoundR.step {found s2 : Sm} {J : Nat} {F : List Int → Int} {f : Int} {k : Rk} (hR : ∀ row, R row → RowGood b row) (FR : FoundR b R ts found J F) (hJ : J < 100) (ht : SmB 3 U tot) (hc : -U ≤ c ∧ c ≤ U) (h1 : PlusR tot (Sv.int c).sm (-1) s1)
    (hf : -U ≤ f ∧ f ≤ U) (h2 : PlusR found (Sv.tr (rtF b ts k s1).1).sm f s2) : FoundR b R (rtF b ts k s1).2 s2 (J + 1) (fun row => F row + f * b01 (relB k (ev tot (atP row) - c))) := by
  obtain ⟨b1, e1⟩ := tot_minus ht hc h1
  have b1' : SmB (3 + ts.length) (U + 1 * U) s1 := b1.mono (by (first | lia | omega)) (by (first | lia | omega))
  have hl := FR.len
  have S := rtF_sem (b := b) FR.T (b1'.ok (by decide) (by (first | lia | omega))) (by have := b1.len; (first | lia | omega)) (k := k)
  have hbit := rtF_bit (b := b) (ts := ts) (k := k) (s := s1)
  generalize rtF b ts k s1 = r at *
  obtain ⟨tr, ts'⟩ := r
  obtain ⟨us, hus, hul⟩ := S.app
  simp only at hus h2 hbit ⊢
  have hlen : ts'.length = ts.length + us.length := by rw [hus, List.length_append]
  have hfB : SmB (3 + ts'.length) ((J + 1 : Nat) * U) found := FR.sm.mono (by (first | lia | omega)) (by (first | lia | omega))
  have htB := SmB.tr S.vars
  refine ⟨S.ok, by (first | lia | omega), ?_, fun row hr => ?_⟩
  · refine (hfB.plus htB hf (by decide) h2).mono (Nat.le_refl _) ?_
    have : ((J + 1 + 1 : Nat) : Int) * U = (J + 1 : Nat) * U + U * 1 := by
      have : ((J + 1 + 1 : Nat) : Int) = (J + 1 : Nat) + 1 := by (first | lia | omega)
      rw [this, Int.add_mul]; (first | lia | omega)
    (first | lia | omega)
  · have Rg := hR row hr
    rw [ev_plus hfB htB h2]
    have e3 : ev found (atP (ext row ts')) = ev found (atP (ext row ts)) := ev_congr fun p hp => by
      have := FR.sm.x p hp
      rw [hus]
      exact atP_ext this.1 (by rw [Rg.len]; exact this.2)
    have e4 := S.sem row Rg
    simp only at e4
    rw [e3, FR.sem row hr, ev_tr Rg (bit01 Rg hbit S.vars), e4, e1, ev_low ht Rg.len]
end

/-! part C13 -/
theorem Bd_of {C : Int} (hC : C < 10 ^ 60) {i : Int} (h : -C ≤ i ∧ i ≤ C) : Bd i := ⟨by (first | lia | omega), by (first | lia | omega)⟩
theorem plus_bd {N : Nat} {C D F f : Int} {a b : Sm} (ha : SmB N C a) (hb : SmB N D b) (hf : -F ≤ f ∧ f ≤ F) (hD : 0 ≤ D) (hC : C + F * D < 10 ^ 60) : Bd (a.k + f * b.k) ∧ ∀ x, Bd (cf a.parts x + f * cf b.parts x) := by
  refine ⟨Bd_of hC ?_, fun x => Bd_of hC ?_⟩
  · have := ha.k
    have := mulb hf hD hb.k
    (first | lia | omega)
  · have := ha.c x
    have := mulb hf hD (hb.c x)
    (first | lia | omega)
theorem plus_tr {b : Base} {R : List Int → Prop} {ts : List TK} {found : Sm} {J : Nat} {F : List Int → Int} {f : Int} {k : Rk} {s1 : Sm} (FR : FoundR b R ts found J F) (hJ : J < 50) (b1 : SmB (3 + ts.length) (U + 1 * U) s1) (hf : -U ≤ f ∧ f ≤ U) :
    ((Sv.tr (rtF b ts k s1).1).sm.parts.map (·.1)).Nodup ∧ found.parts.length + (Sv.tr (rtF b ts k s1).1).sm.parts.length < 60 ∧ Bd (found.k + f * (Sv.tr (rtF b ts k s1).1).sm.k) ∧ ∀ x, Bd (cf found.parts x + f * cf (Sv.tr (rtF b ts k s1).1).sm.parts x) := by
  have hl := FR.len
  have S := rtF_sem (b := b) FR.T (b1.ok (by decide) (by (first | lia | omega))) (by have := b1.len; (first | lia | omega)) (k := k)
  obtain ⟨us, hus, hul⟩ := S.app
  have hlen : (rtF b ts k s1).2.length = ts.length + us.length := by rw [hus, List.length_append]
  have hT := SmB.tr S.vars
  have hF : SmB (3 + (rtF b ts k s1).2.length) ((J + 1 : Nat) * U) found := FR.sm.mono (by (first | lia | omega)) (by (first | lia | omega))
  have hTl : (Sv.tr (rtF b ts k s1).1).sm.parts.length ≤ 1 := by
    cases (rtF b ts k s1).1 with
    | bool _ => simp [Sv.sm]
    | bit x u => cases u <;> simp [Sv.sm]
  have hC : ((J + 1 : Nat) : Int) * U + U * 1 < 10 ^ 60 := by
    have : ((J + 1 : Nat) : Int) * U ≤ 100 * U := Int.mul_le_mul_of_nonneg_right (by (first | lia | omega)) (by decide)
    have h2 : 100 * U + U * 1 < 10 ^ 60 := by decide
    (first | lia | omega)
  obtain ⟨bd1, bd2⟩ := plus_bd hF hT hf (by decide) hC
  exact ⟨hT.nd, by have := FR.sm.len; (first | lia | omega), bd1, bd2⟩
theorem le_iff {g W k more : Int} (hg : 1 ≤ g) (hm : 0 ≤ more ∧ more < g) : (g * W - (k * g + more) ≤ 0) ↔ W ≤ k := by
  have e : g * W - (k * g + more) = g * (W - k) - more := by rw [Int.mul_sub, Int.mul_comm k g]; (first | lia | omega)
  rw [e]
  constructor
  · intro h
    rcases Int.lt_or_le k W with q | q
    · have := Int.mul_le_mul_of_nonneg_left (show 1 ≤ W - k by (first | lia | omega)) (show 0 ≤ g by (first | lia | omega))
      (first | lia | omega)
    · exact q
  · intro h
    have := Int.mul_le_mul_of_nonneg_left (show W - k ≤ 0 by (first | lia | omega)) (show 0 ≤ g by (first | lia | omega))
    (first | lia | omega)
theorem eq_iff {g W k : Int} (hg : 1 ≤ g) : (g * W - k * g = 0) ↔ W = k := by
  have e : g * W - k * g = g * (W - k) := by rw [Int.mul_sub, Int.mul_comm k g]
  rw [e, Int.mul_eq_zero]
  (first | lia | omega)
noncomputable def F0 (g most : Int) (W : List Int → Int) (p : Int) (row : List Int) : Int := g * (most - if W row ≤ p then p - W row else 0)
theorem F0_step {g most : Int} {W : List Int → Int} {p more : Int} {row : List Int} (hg : 1 ≤ g) (hm : 0 ≤ more ∧ more < g) : F0 g most W p row + -g * b01 (relB .le (g * W row - (p * g + more))) = F0 g most W (p + 1) row := by
  unfold F0 relB b01
  simp only [decide_eq_true_eq, le_iff hg hm]
  by_cases h : W row ≤ p
  · rw [if_pos h, if_pos h, if_pos (by (first | lia | omega))]
    have : most - (p + 1 - W row) = (most - (p - W row)) - 1 := by (first | lia | omega)
    rw [this, Int.mul_sub g _ 1]; (first | lia | omega)
  · rw [if_neg h, if_neg h]
    by_cases h2 : W row ≤ p + 1
    · rw [if_pos h2]
      have : p + 1 - W row = 0 := by (first | lia | omega)
      rw [this]; (first | lia | omega)
    · rw [if_neg h2]; (first | lia | omega)
noncomputable def F1 (g : Int) (W : List Int → Int) (p : Int) (row : List Int) : Int := if W row < p then W row * g else 0
theorem F1_step {g : Int} {W : List Int → Int} {p : Int} {row : List Int} (hg : 1 ≤ g) : F1 g W p row + p * g * b01 (relB .eq (g * W row - p * g)) = F1 g W (p + 1) row := by
  unfold F1 relB b01
  simp only [decide_eq_true_eq, eq_iff hg]
  by_cases h : W row = p
  · rw [if_pos h, if_neg (by (first | lia | omega)), if_pos (by (first | lia | omega)), h]; (first | lia | omega)
  · rw [if_neg h]
    by_cases h2 : W row < p
    · rw [if_pos h2, if_pos (by (first | lia | omega))]; (first | lia | omega)
    · rw [if_neg h2, if_neg (by (first | lia | omega))]; (first | lia | omega)
noncomputable def F2 (g bottom most : Int) (W : List Int → Int) (p : Int) (row : List Int) : Int := g * (sumTo bottom (most + 1 - bottom).toNat - sumTo bottom (p - bottom).toNat + if W row < p then W row else 0)
theorem F2_step {g bottom most : Int} {W : List Int → Int} {p : Int} {row : List Int} (hg : 1 ≤ g) (hp : bottom ≤ p) : F2 g bottom most W p row + -p * g * b01 (relB .ne (g * W row - p * g)) = F2 g bottom most W (p + 1) row := by
  unfold F2 relB b01
  rw [show (p + 1 - bottom).toNat = (p - bottom).toNat + 1 by (first | lia | omega), sumTo_succ, show bottom + ((p - bottom).toNat : Int) = p by (first | lia | omega)]
  generalize sumTo bottom (most + 1 - bottom).toNat = S
  generalize sumTo bottom (p - bottom).toNat = T
  by_cases h : W row = p
  · rw [decide_eq_true ((eq_iff hg).mpr h)]
    simp only [Bool.not_true, Bool.false_eq_true, ↓reduceIte]
    rw [if_neg (by (first | lia | omega)), if_pos (by (first | lia | omega)), h]
    have : S - (T + p) + p = S - T + 0 := by (first | lia | omega)
    rw [this]; (first | lia | omega)
  · rw [decide_eq_false fun q => h ((eq_iff hg).mp q)]
    simp only [Bool.not_false, ↓reduceIte]
    have hx : -p * g = g * -p := Int.mul_comm _ _
    by_cases h2 : W row < p
    · rw [if_pos h2, if_pos (by (first | lia | omega))]
      have : S - (T + p) + W row = (S - T + W row) + -p := by (first | lia | omega)
      rw [this, Int.mul_add g _ (-p)]; (first | lia | omega)
    · rw [if_neg h2, if_neg (by (first | lia | omega))]
      have : S - (T + p) + 0 = (S - T + 0) + -p := by (first | lia | omega)
      rw [this, Int.mul_add g _ (-p)]; (first | lia | omega)
theorem sumTo_bd {a M : Int} : ∀ (n : Nat), (∀ i : Nat, i < n → -M ≤ a + i ∧ a + i ≤ M) → -(n * M) ≤ sumTo a n ∧ sumTo a n ≤ n * M
  | 0, _ => by rw [sumTo_zero]; simp
  | n + 1, h => by
    have ih := sumTo_bd n fun i hi => h i (by (first | lia | omega))
    have h1 := h n (by (first | lia | omega))
    rw [sumTo_succ]
    have : ((n + 1 : Nat) : Int) * M = n * M + M := by rw [show ((n + 1 : Nat) : Int) = (n : Int) + 1 by (first | lia | omega), Int.add_mul]; (first | lia | omega)
    rw [this]; (first | lia | omega)
theorem mul_bd {g k : Int} (hg : 1 ≤ g ∧ g ≤ 10 ^ 18) (hk : -18 ≤ k ∧ k ≤ 18) : -(18 * 10 ^ 18) ≤ k * g ∧ k * g ≤ 18 * 10 ^ 18 := by
  have h1 := mulb (F := 18) (D := 10 ^ 18) (f := k) (y := g) hk (by decide) (by (first | lia | omega))
  exact h1
section
variable {c : Cx} {n : Nat} {fd : O} {b : Base} {ts : List TK} {rest : List O} {σ : List O} {R : List Int → Prop}
theorem S_put (t : Txt c) (o : b.Ok) (hR : ∀ row, R row → RowGood b row) {total : Sv} {way bottom most great more : Int} {W : List Int → Int} {Φ : V → List O → Prop} (ht : SmB 3 U total.sm)
    (hway : 0 ≤ way ∧ way < 3) (hb : -13 ≤ bottom) (hbm : bottom ≤ most) (hm : most ≤ 13) (hg : 1 ≤ great ∧ great ≤ 10 ^ 18) (hmo : 0 ≤ more ∧ more < great)
    (hW : ∀ row, R row → ev total.sm (atP row) = great * W row ∧ bottom ≤ W row ∧ W row ≤ most)
    (h : ∀ (found : Sv) ts', FoundR b R ts' found.sm 40 (fun row => great * W row) → Φ found.v (Gs fd b ts' rest)) :
    WpC c (n + 7) (.ref 304) (Gs fd b [] rest) [.inst 269 1, .int way, total.v, .tup [.int bottom, .int most], .int great, .int more] Φ := by
  refine WpC_def (D_law_put t) rfl ?_
  unfold bd_law_put
  dsimp only
  refine WpS_cons (WpX_assignT ?_ (by intro env; with_unfolding_all rfl) (by intro env h; cases env; subst h; with_unfolding_all rfl) (by intro env; with_unfolding_all rfl))
  repeat walk_at "e"
  refine ⟨_, asg_pair (.inl (by decide +kernel)) (.inl (by decide +kernel)), ?_⟩
  refine WpS_cons (WpX_if ?_)
  repeat walk_at "e"
  refine ⟨by rfl, by rfl, ?_⟩
  rw [eqV_int]
  by_cases h0 : way = 0
  · refine ifT (decide_eq_true h0) ?_
    refine WpS_cons ?_
    walk_at "s"
    repeat walk_at "e"
    have hmg := mul_bd hg (k := most) (by (first | lia | omega))
    refine ⟨.inr (intBits_le_64 (by (first | lia | omega)) (by (first | lia | omega))), ?_⟩
    refine WpS_cons (WpX_for ?_)
    refine WpE_call _ (B_range t) trivial ?_
    repeat walk_at "e"
    refine WpC_range2 ?_
    refine ⟨⟨by (first | lia | omega), by (first | lia | omega), by (first | lia | omega), by (first | lia | omega)⟩, ?_⟩
    refine forGo_inv (fun vs m σ' => ∃ (p : Int) (ts : List TK) (found : Sv), bottom ≤ p ∧ p ≤ most ∧ vs = rangeV p most ∧ σ' = Gs fd b ts rest ∧ FoundR b R ts found.sm (p - bottom).toNat (F0 great most W p) ∧ m "gatherer" = some (.inst 269 1) ∧
      m "total" = some total.v ∧ m "great" = some (.int great) ∧ m "more" = some (.int more) ∧ m "found" = some found.v) ?_ ?_ _ _ _ ⟨bottom, [], .int (most * great), by (first | lia | omega), hbm, rfl, rfl, ⟨TsOk.nil, by simp, SmB.int _ (by
        have : ((bottom - bottom).toNat + 1 : Nat) = 1 := by (first | lia | omega)
        rw [this]; unfold U; (first | lia | omega)), fun row hr => ?_⟩, rfl, rfl, rfl, rfl, rfl⟩
    · rintro m σ' ⟨p, ts, found, hp1, hp2, hvs, rfl, FR, h1, h2, h3, h4, h5⟩
      have hpN : p = most := by
        by_cases q : p < most
        · rw [rangeV_cons q] at hvs; cases hvs
        · (first | lia | omega)
      subst hpN
      refine ⟨trivial, ?_⟩
      refine WpS_cons (WpX_return ?_)
      repeat walk_at "e"
      refine h found ts ⟨FR.T, by have := FR.len; (first | lia | omega), FR.sm.mono (Nat.le_refl _) ?_, fun row hr => ?_⟩
      · have : ((p - bottom).toNat + 1 : Nat) ≤ 41 := by (first | lia | omega)
        exact Int.mul_le_mul_of_nonneg_right (by (first | lia | omega)) (by decide)
      · rw [FR.sem row hr]
        obtain ⟨_, w1, w2⟩ := hW row hr
        unfold F0
        rw [if_pos w2]
        congr 1; (first | lia | omega)
    · rintro v vs m σ' ⟨p, ts, found, hp1, hp2, hvs, rfl, FR, h1, h2, h3, h4, h5⟩
      have hlt : p < most := by
        by_cases q : p < most
        · exact q
        · rw [rangeV_nil (by (first | lia | omega))] at hvs; cases hvs
      rw [rangeV_cons hlt] at hvs
      simp only [List.cons.injEq] at hvs
      obtain ⟨rfl, rfl⟩ := hvs
      have hl := FR.len
      have hpg := mul_bd hg (k := p) (by (first | lia | omega))
      refine ⟨trivial, _, asg_name (.inl (by decide +kernel)), ?_⟩
      refine gen3 fun Ψ hΨ => ?_
      refine WpS_cons ?_
      walk_at "s"
      refine WpE_m (M_row_truth t) (by intro _; with_unfolding_all rfl) (by intro _ _; with_unfolding_all rfl) ?_
      repeat walk_at "e"
      refine ⟨1, _, rfl, rfl, rfl, ?_⟩
      repeat walk_at "e"
      refine WpE_call _ (G_plus t) (C_plus t) ?_
      repeat walk_at "e"
      refine ⟨.inr (intBits_le_64 (by (first | lia | omega)) (by (first | lia | omega))), ?_⟩
      show WpE _ _ _ _ _ _ _
      repeat walk_at "e"
      show WpEs _ _ _ _ _ _ _
      repeat walk_at "e"
      have hcU : -U ≤ p * great + more ∧ p * great + more ≤ U := by unfold U; (first | lia | omega)
      have hcI := SmB.int (N := 3) (p * great + more) hcU
      obtain ⟨bd1, bd2⟩ := plus_bd (f := -1) (F := 1) ht hcI (by (first | lia | omega)) (by decide) (by decide)
      refine WpC.room (k := n + 3) (S_plus t (one := total) (other := .int (p * great + more)) (f := -1) (by decide) ht.nd hcI.nd (by have := ht.len; show _ + 0 < _; (first | lia | omega)) bd1 bd2 fun s1 hs1 _ => ?_) (by (first | lia | omega))
      repeat walk_at "e"
      obtain ⟨b1, e1⟩ := tot_minus ht hcU hs1
      have b1' : SmB (3 + ts.length) (U + 1 * U) s1 := b1.mono (by (first | lia | omega)) (by (first | lia | omega))
      refine WpC.room (k := n + 6) (S_row_truth t o (k := .le) (v := s1.sv) (by rw [Sm.sv_sm]; exact b1'.ok (by decide) (by (first | lia | omega))) (by (first | lia | omega)) ?_) (by (first | lia | omega))
      rw [Sm.sv_sm]
      refine WpS_cons ?_
      walk_at "s"
      refine WpE_call _ (G_plus t) (C_plus t) ?_
      repeat walk_at "e"
      obtain ⟨p1, p2, p3, p4⟩ := plus_tr (k := .le) (f := -great) FR (by (first | lia | omega)) b1' (by unfold U; (first | lia | omega))
      refine WpC.room (k := n + 3) (S_plus t (one := found) (other := .tr (rtF b ts .le s1).1) (f := -great) (intBits_le_64 (by (first | lia | omega)) (by (first | lia | omega))) FR.sm.nd p1 p2 p3 p4 fun s2 hs2 _ => ?_) (by (first | lia | omega))
      refine WpS_nil ?_
      refine hΨ .next _ _ ?_
      have e2 : ((p + 1) - bottom).toNat = (p - bottom).toNat + 1 := by (first | lia | omega)
      refine ⟨p + 1, _, s2.sv, by (first | lia | omega), by (first | lia | omega), rfl, rfl, ?_, h1, h2, h3, h4, rfl⟩
      rw [Sm.sv_sm, e2]
      refine (FR.step hR (by (first | lia | omega)) ht hcU hs1 (by unfold U; (first | lia | omega)) hs2).congr fun row hr => ?_
      rw [(hW row hr).1]
      exact F0_step hg.1 hmo
    · rw [ev_int]
      obtain ⟨_, w1, w2⟩ := hW row hr
      unfold F0
      have : (if W row ≤ bottom then bottom - W row else 0) = 0 := by split <;> (first | lia | omega)
      rw [this, Int.sub_zero, Int.mul_comm most]
  · refine ifF (decide_eq_false h0) ?_
    refine WpS_nil ?_
    refine WpS_cons (WpX_if ?_)
    repeat walk_at "e"
    refine ⟨by rfl, by rfl, ?_⟩
    rw [eqV_int]
    by_cases h1w : way = 1
    · refine ifT (decide_eq_true h1w) ?_
      refine WpS_cons ?_
      walk_at "s"
      repeat walk_at "e"
      refine WpS_cons (WpX_for ?_)
      refine WpE_call _ (B_range t) trivial ?_
      repeat walk_at "e"
      show WpEs _ _ _ _ _ _ _
      repeat walk_at "e"
      refine WpC_range2 ?_
      refine ⟨⟨by (first | lia | omega), by (first | lia | omega), by (first | lia | omega), by (first | lia | omega)⟩, ?_⟩
      refine forGo_inv (fun vs m σ' => ∃ (p : Int) (ts : List TK) (found : Sv), bottom ≤ p ∧ p ≤ most + 1 ∧ vs = rangeV p (most + 1) ∧ σ' = Gs fd b ts rest ∧ FoundR b R ts found.sm (p - bottom).toNat (F1 great W p) ∧ m "gatherer" = some (.inst 269 1) ∧
        m "total" = some total.v ∧ m "great" = some (.int great) ∧ m "found" = some found.v) ?_ ?_ _ _ _ ⟨bottom, [], .int 0, by (first | lia | omega), by (first | lia | omega), rfl, rfl, ⟨TsOk.nil, by simp, SmB.int _ (by
          have : ((bottom - bottom).toNat + 1 : Nat) = 1 := by (first | lia | omega)
          rw [this]; unfold U; (first | lia | omega)), fun row hr => ?_⟩, rfl, rfl, rfl, rfl⟩
      · rintro m σ' ⟨p, ts, found, hp1, hp2, hvs, rfl, FR, h1, h2, h3, h5⟩
        have hpN : p = most + 1 := by
          by_cases q : p < most + 1
          · rw [rangeV_cons q] at hvs; cases hvs
          · (first | lia | omega)
        subst hpN
        refine ⟨trivial, ?_⟩
        refine WpS_cons (WpX_return ?_)
        repeat walk_at "e"
        refine h found ts ⟨FR.T, by have := FR.len; (first | lia | omega), FR.sm.mono (Nat.le_refl _) ?_, fun row hr => ?_⟩
        · have : ((most + 1 - bottom).toNat + 1 : Nat) ≤ 41 := by (first | lia | omega)
          exact Int.mul_le_mul_of_nonneg_right (by (first | lia | omega)) (by decide)
        · rw [FR.sem row hr]
          obtain ⟨_, w1, w2⟩ := hW row hr
          unfold F1
          rw [if_pos (by (first | lia | omega)), Int.mul_comm]
      · rintro v vs m σ' ⟨p, ts, found, hp1, hp2, hvs, rfl, FR, h1, h2, h3, h5⟩
        have hlt : p < most + 1 := by
          by_cases q : p < most + 1
          · exact q
          · rw [rangeV_nil (by (first | lia | omega))] at hvs; cases hvs
        rw [rangeV_cons hlt] at hvs
        simp only [List.cons.injEq] at hvs
        obtain ⟨rfl, rfl⟩ := hvs
        have hl := FR.len
        have hpg := mul_bd hg (k := p) (by (first | lia | omega))
        have hfp : -(18 * 10 ^ 18) ≤ p * great ∧ p * great ≤ 18 * 10 ^ 18 := hpg
        refine ⟨trivial, _, asg_name (.inl (by decide +kernel)), ?_⟩
        refine gen3 fun Ψ hΨ => ?_
        refine WpS_cons ?_
        walk_at "s"
        refine WpE_call _ (G_plus t) (C_plus t) ?_
        walk_at "e"
        walk_at "e"
        walk_at "e"
        refine WpE_m (M_row_truth t) (by intro _; with_unfolding_all rfl) (by intro _ _; with_unfolding_all rfl) ?_
        repeat walk_at "e"
        refine ⟨1, _, rfl, rfl, rfl, ?_⟩
        repeat walk_at "e"
        refine WpE_call _ (G_plus t) (C_plus t) ?_
        repeat walk_at "e"
        refine ⟨.inr (intBits_le_64 (by (first | lia | omega)) (by (first | lia | omega))), ?_⟩
        show WpEs _ _ _ _ _ _ _
        repeat walk_at "e"
        have hcU : -U ≤ p * great ∧ p * great ≤ U := by unfold U; (first | lia | omega)
        have hcI := SmB.int (N := 3) (p * great) hcU
        obtain ⟨bd1, bd2⟩ := plus_bd (f := -1) (F := 1) ht hcI (by (first | lia | omega)) (by decide) (by decide)
        refine WpC.room (k := n + 3) (S_plus t (one := total) (other := .int (p * great)) (f := -1) (by decide) ht.nd hcI.nd (by have := ht.len; show _ + 0 < _; (first | lia | omega)) bd1 bd2 fun s1 hs1 _ => ?_) (by (first | lia | omega))
        repeat walk_at "e"
        obtain ⟨b1, e1⟩ := tot_minus ht hcU hs1
        have b1' : SmB (3 + ts.length) (U + 1 * U) s1 := b1.mono (by (first | lia | omega)) (by (first | lia | omega))
        refine WpC.room (k := n + 6) (S_row_truth t o (k := .eq) (v := s1.sv) (by rw [Sm.sv_sm]; exact b1'.ok (by decide) (by (first | lia | omega))) (by (first | lia | omega)) ?_) (by (first | lia | omega))
        rw [Sm.sv_sm]
        repeat walk_at "e"
        refine ⟨.inr (intBits_le_64 (by (first | lia | omega)) (by (first | lia | omega))), ?_⟩
        repeat walk_at "e"
        obtain ⟨p1, p2, p3, p4⟩ := plus_tr (k := .eq) (f := p * great) FR (by (first | lia | omega)) b1' (by unfold U; (first | lia | omega))
        refine WpC.room (k := n + 3) (S_plus t (one := found) (other := .tr (rtF b ts .eq s1).1) (f := p * great) (intBits_le_64 (by (first | lia | omega)) (by (first | lia | omega))) FR.sm.nd p1 p2 p3 p4 fun s2 hs2 _ => ?_) (by (first | lia | omega))
        refine WpS_nil ?_
        refine hΨ .next _ _ ?_
        have e2 : ((p + 1) - bottom).toNat = (p - bottom).toNat + 1 := by (first | lia | omega)
        refine ⟨p + 1, _, s2.sv, by (first | lia | omega), by (first | lia | omega), rfl, rfl, ?_, h1, h2, h3, rfl⟩
        rw [Sm.sv_sm, e2]
        refine (FR.step hR (by (first | lia | omega)) ht hcU hs1 (by unfold U; (first | lia | omega)) hs2).congr fun row hr => ?_
        rw [(hW row hr).1]
        exact F1_step hg.1
      · rw [ev_int]
        obtain ⟨_, w1, w2⟩ := hW row hr
        unfold F1
        rw [if_neg (by (first | lia | omega))]
    · refine ifF (decide_eq_false h1w) ?_
      refine WpS_nil ?_
      refine WpS_cons ?_
      walk_at "s"
      repeat walk_at "e"
      refine WpE_call _ (B_sum t) trivial ?_
      refine WpEs_cons ?_
      refine WpE_call _ (B_range t) trivial ?_
      repeat walk_at "e"
      show WpEs _ _ _ _ _ _ _
      repeat walk_at "e"
      refine WpC_range2 ?_
      repeat walk_at "e"
      refine WpC_sumR (by (first | lia | omega)) ?_
      have hsb := sumTo_bd (a := bottom) (M := 13) ((most + 1 - bottom).toNat) (fun i hi => by (first | lia | omega))
      have hgs : -U ≤ great * sumTo bottom (most + 1 - bottom).toNat ∧ great * sumTo bottom (most + 1 - bottom).toNat ≤ U := by
        have h1 := mulb (F := 10 ^ 18) (D := 13 * 27) (f := great) (y := sumTo bottom (most + 1 - bottom).toNat) (by (first | lia | omega)) (by decide) (by
          have : ((most + 1 - bottom).toNat : Int) ≤ 27 := by (first | lia | omega)
          have h3 : ((most + 1 - bottom).toNat : Int) * 13 ≤ 27 * 13 := Int.mul_le_mul_of_nonneg_right this (by decide)
          (first | lia | omega))
        unfold U; (first | lia | omega)
      refine ⟨.inl (intBits_le_64 (by (first | lia | omega)) (by (first | lia | omega))), ?_⟩
      refine WpS_cons (WpX_for ?_)
      refine WpE_call _ (B_range t) trivial ?_
      repeat walk_at "e"
      show WpEs _ _ _ _ _ _ _
      repeat walk_at "e"
      refine WpC_range2 ?_
      refine ⟨⟨by (first | lia | omega), by (first | lia | omega), by (first | lia | omega), by (first | lia | omega)⟩, ?_⟩
      refine forGo_inv (fun vs m σ' => ∃ (p : Int) (ts : List TK) (found : Sv), bottom ≤ p ∧ p ≤ most + 1 ∧ vs = rangeV p (most + 1) ∧ σ' = Gs fd b ts rest ∧ FoundR b R ts found.sm (p - bottom).toNat (F2 great bottom most W p) ∧ m "gatherer" = some (.inst 269 1) ∧
        m "total" = some total.v ∧ m "great" = some (.int great) ∧ m "found" = some found.v) ?_ ?_ _ _ _ ⟨bottom, [], .int (great * sumTo bottom (most + 1 - bottom).toNat), by (first | lia | omega), by (first | lia | omega), rfl, rfl, ⟨TsOk.nil, by simp, SmB.int _ (by
          have : ((bottom - bottom).toNat + 1 : Nat) = 1 := by (first | lia | omega)
          rw [this]; (first | lia | omega)), fun row hr => ?_⟩, rfl, rfl, rfl, rfl⟩
      · rintro m σ' ⟨p, ts, found, hp1, hp2, hvs, rfl, FR, h1, h2, h3, h5⟩
        have hpN : p = most + 1 := by
          by_cases q : p < most + 1
          · rw [rangeV_cons q] at hvs; cases hvs
          · (first | lia | omega)
        subst hpN
        refine ⟨trivial, ?_⟩
        refine WpS_cons (WpX_return ?_)
        repeat walk_at "e"
        refine h found ts ⟨FR.T, by have := FR.len; (first | lia | omega), FR.sm.mono (Nat.le_refl _) ?_, fun row hr => ?_⟩
        · have : ((most + 1 - bottom).toNat + 1 : Nat) ≤ 41 := by (first | lia | omega)
          exact Int.mul_le_mul_of_nonneg_right (by (first | lia | omega)) (by decide)
        · rw [FR.sem row hr]
          obtain ⟨_, w1, w2⟩ := hW row hr
          unfold F2
          rw [if_pos (by (first | lia | omega))]
          congr 1; (first | lia | omega)
      · rintro v vs m σ' ⟨p, ts, found, hp1, hp2, hvs, rfl, FR, h1, h2, h3, h5⟩
        have hlt : p < most + 1 := by
          by_cases q : p < most + 1
          · exact q
          · rw [rangeV_nil (by (first | lia | omega))] at hvs; cases hvs
        rw [rangeV_cons hlt] at hvs
        simp only [List.cons.injEq] at hvs
        obtain ⟨rfl, rfl⟩ := hvs
        have hl := FR.len
        have hpg := mul_bd hg (k := p) (by (first | lia | omega))
        have hfp : -(18 * 10 ^ 18) ≤ -p * great ∧ -p * great ≤ 18 * 10 ^ 18 := mul_bd hg (by (first | lia | omega))
        refine ⟨trivial, _, asg_name (.inl (by decide +kernel)), ?_⟩
        refine gen3 fun Ψ hΨ => ?_
        refine WpS_cons ?_
        walk_at "s"
        refine WpE_call _ (G_plus t) (C_plus t) ?_
        walk_at "e"
        walk_at "e"
        walk_at "e"
        refine WpE_m (M_row_truth t) (by intro _; with_unfolding_all rfl) (by intro _ _; with_unfolding_all rfl) ?_
        repeat walk_at "e"
        refine ⟨1, _, rfl, rfl, rfl, ?_⟩
        repeat walk_at "e"
        refine WpE_call _ (G_plus t) (C_plus t) ?_
        repeat walk_at "e"
        refine ⟨.inr (intBits_le_64 (by (first | lia | omega)) (by (first | lia | omega))), ?_⟩
        show WpEs _ _ _ _ _ _ _
        repeat walk_at "e"
        have hcU : -U ≤ p * great ∧ p * great ≤ U := by unfold U; (first | lia | omega)
        have hcI := SmB.int (N := 3) (p * great) hcU
        obtain ⟨bd1, bd2⟩ := plus_bd (f := -1) (F := 1) ht hcI (by (first | lia | omega)) (by decide) (by decide)
        refine WpC.room (k := n + 3) (S_plus t (one := total) (other := .int (p * great)) (f := -1) (by decide) ht.nd hcI.nd (by have := ht.len; show _ + 0 < _; (first | lia | omega)) bd1 bd2 fun s1 hs1 _ => ?_) (by (first | lia | omega))
        repeat walk_at "e"
        obtain ⟨b1, e1⟩ := tot_minus ht hcU hs1
        have b1' : SmB (3 + ts.length) (U + 1 * U) s1 := b1.mono (by (first | lia | omega)) (by (first | lia | omega))
        refine WpC.room (k := n + 6) (S_row_truth t o (k := .ne) (v := s1.sv) (by rw [Sm.sv_sm]; exact b1'.ok (by decide) (by (first | lia | omega))) (by (first | lia | omega)) ?_) (by (first | lia | omega))
        rw [Sm.sv_sm]
        repeat walk_at "e"
        refine ⟨.inr (intBits_le_64 (by (first | lia | omega)) (by (first | lia | omega))), ?_⟩
        repeat walk_at "e"
        obtain ⟨p1, p2, p3, p4⟩ := plus_tr (k := .ne) (f := -p * great) FR (by (first | lia | omega)) b1' (by unfold U; (first | lia | omega))
        refine WpC.room (k := n + 3) (S_plus t (one := found) (other := .tr (rtF b ts .ne s1).1) (f := -p * great) (intBits_le_64 (by (first | lia | omega)) (by (first | lia | omega))) FR.sm.nd p1 p2 p3 p4 fun s2 hs2 _ => ?_) (by (first | lia | omega))
        refine WpS_nil ?_
        refine hΨ .next _ _ ?_
        have e2 : ((p + 1) - bottom).toNat = (p - bottom).toNat + 1 := by (first | lia | omega)
        refine ⟨p + 1, _, s2.sv, by (first | lia | omega), by (first | lia | omega), rfl, rfl, ?_, h1, h2, h3, rfl⟩
        rw [Sm.sv_sm, e2]
        refine (FR.step hR (by (first | lia | omega)) ht hcU hs1 (by unfold U; (first | lia | omega)) hs2).congr fun row hr => ?_
        rw [(hW row hr).1]
        exact F2_step hg.1 hp1
      · rw [ev_int]
        obtain ⟨_, w1, w2⟩ := hW row hr
        unfold F2
        rw [if_neg (by (first | lia | omega)), show (bottom - bottom).toNat = 0 by (first | lia | omega), sumTo_zero]
        congr 1; (first | lia | omega)
end

/-! part D6 -/
/-! the plain law: just one way to go on -/
noncomputable def mx (d : Td) : Int := d.about.foldl (fun a x => if a < x then x else a) (-1)
theorem foldl_mx : ∀ (l : List Int) (a : Int), a ≤ l.foldl (fun a x => if a < x then x else a) a ∧ (∀ x ∈ l, x ≤ l.foldl (fun a x => if a < x then x else a) a) ∧ (l.foldl (fun a x => if a < x then x else a) a = a ∨ l.foldl (fun a x => if a < x then x else a) a ∈ l)
  | [], a => by simp
  | y :: l, a => by
    obtain ⟨h1, h2, h3⟩ := foldl_mx l (if a < y then y else a)
    rw [List.foldl_cons]
    refine ⟨?_, fun x hx => ?_, ?_⟩
    · split at h1 <;> rename_i q
      · rw [if_pos q] at *; (first | lia | omega)
      · rw [if_neg q] at *; (first | lia | omega)
    · rcases List.mem_cons.mp hx with rfl | hx
      · by_cases q : a < x
        · rw [if_pos q] at h1 ⊢; exact h1
        · rw [if_neg q] at h1 ⊢; (first | lia | omega)
      · exact h2 x hx
    · rcases h3 with h3 | h3
      · by_cases q : a < y
        · rw [if_pos q] at h3 ⊢; exact .inr (by rw [h3]; exact List.mem_cons_self)
        · rw [if_neg q] at h3 ⊢; exact .inl h3
      · exact .inr (List.mem_cons_of_mem _ h3)
theorem mx_is {d : Td} {r : Int} (h1 : r ∈ (-1 :: d.about)) (h2 : ∀ x ∈ (-1 :: d.about), x ≤ r) : r = mx d := by
  obtain ⟨g1, g2, g3⟩ := foldl_mx d.about (-1)
  have a1 : mx d ≤ r := by
    unfold mx
    rcases g3 with g3 | g3
    · rw [g3]; exact h2 _ List.mem_cons_self
    · exact h2 _ (List.mem_cons_of_mem _ g3)
  have a2 : r ≤ mx d := by
    unfold mx
    rcases List.mem_cons.mp h1 with q | q
    · rw [q]; exact g1
    · exact g2 _ q
  (first | lia | omega)
theorem about_le {d : Td} {x : Int} (h : x ∈ d.about) : x ≤ mx d := (foldl_mx d.about (-1)).2.1 x h
theorem mx_lt {d : Td} {N : Int} (h : ∀ x ∈ d.about, x < N) (h0 : -1 < N) : mx d < N := by
  obtain ⟨g1, g2, g3⟩ := foldl_mx d.about (-1)
  unfold mx
  rcases g3 with g3 | g3
  · rw [g3]; exact h0
  · exact h _ g3
theorem mx_ge (d : Td) : -1 ≤ mx d := (foldl_mx d.about (-1)).1
noncomputable def reifs (ts : List TK) : List Td := (ts.zipIdx 3).map fun p => Td.reif ((p.2 : Nat) : Int) p.1
theorem toldsV_reifs (ts : List TK) : toldsV ts = (reifs ts).map Td.v := by
  unfold toldsV reifs; rw [List.map_map]; rfl
theorem reifs_mem {ts : List TK} {d : Td} (h : d ∈ reifs ts) : ∃ i t, ts[i]? = some t ∧ d = .reif ((3 + i : Nat) : Int) t := by
  unfold reifs at h
  obtain ⟨⟨t, j⟩, hp, rfl⟩ := List.mem_map.mp h
  rw [List.mem_zipIdx_iff_le_and_getElem?_sub] at hp
  obtain ⟨h1, h2⟩ := hp
  simp only at h1 h2
  exact ⟨j - 3, t, h2, by rw [show 3 + (j - 3) = j by (first | lia | omega)]⟩
noncomputable def Gof (ds : List Td) (place : Int) : List Td := ds.filter fun d => decide (mx d = place)
theorem mem_Gof {ds : List Td} {place : Int} {d : Td} : d ∈ Gof ds place ↔ d ∈ ds ∧ mx d = place := by
  unfold Gof; rw [List.mem_filter, decide_eq_true_eq]
structure FinR (b : Base) (R : List Int → Prop) (ts : List TK) (D : List Td) (due : List Int → Bool) : Prop where
  T : TsOk ts
  len : ts.length ≤ 100
  one : D.length ≤ 1
  ok : ∀ d ∈ D, d.ok ∧ (∀ x ∈ d.about, 0 ≤ x ∧ x < ((3 + ts.length : Nat) : Int)) ∧ d.about.length < 900
  sem : ∀ row, R row → (D.all fun d => d.holds (ext row ts)) = due row
section
variable {b : Base} {R : List Int → Prop} {ts : List TK} {D : List Td} {due : List Int → Bool}
theorem mx_reif (T : TsOk ts) {i : Nat} {t : TK} (h : ts[i]? = some t) : mx (.reif ((3 + i : Nat) : Int) t) = ((3 + i : Nat) : Int) := by
  refine (mx_is (d := .reif ((3 + i : Nat) : Int) t) (List.mem_cons_of_mem _ List.mem_cons_self) fun x hx => ?_).symm
  rcases List.mem_cons.mp hx with q | hx
  · (first | lia | omega)
  · rcases List.mem_cons.mp hx with q | hx
    · (first | lia | omega)
    · have := (T.ok i t h).2.2.1 x hx; (first | lia | omega)
theorem Fin_mem (F : FinR b R ts D due) {d : Td} (h : d ∈ reifs ts ++ D) : d.ok ∧ (∀ x ∈ d.about, 0 ≤ x ∧ x < ((3 + ts.length : Nat) : Int)) ∧ d.about.length < 1000 := by
  rcases List.mem_append.mp h with h | h
  · obtain ⟨i, t, h1, rfl⟩ := reifs_mem h
    obtain ⟨a1, a2, a3, a4⟩ := F.T.ok i t h1
    obtain ⟨hi, _⟩ := List.getElem?_eq_some_iff.mp h1
    refine ⟨⟨a1, a2⟩, fun x hx => ?_, by show t.2.2.1.length + 1 < 1000; (first | lia | omega)⟩
    rcases List.mem_cons.mp hx with q | hx
    · (first | lia | omega)
    · have := a3 x hx; (first | lia | omega)
  · obtain ⟨a1, a2, a3⟩ := F.ok d h
    exact ⟨a1, a2, by (first | lia | omega)⟩
theorem holds_take (F : FinR b R ts D due) {row : List Int} (hr : row.length = 3) {k : Nat} {d : Td} (hd : d ∈ D) (h : mx d < ((3 + k : Nat) : Int)) : d.holds (ext row (ts.take k)) = d.holds (ext row ts) := by
  refine holds_congr fun x hx => ?_
  have h1 := about_le hx
  have h0 := (F.ok d hd).2.1 x hx
  have := atP_ext (row := row) (ts := ts.take k) (us := ts.drop k) h0.1 (by rw [hr, List.length_take]; (first | lia | omega))
  rw [List.take_append_drop] at this
  exact this.symm
theorem zip_at : ∀ (ts : List TK) (j : Nat), (ts.zipIdx j).map (fun p => Td.reif ((p.2 : Nat) : Int) p.1) = (List.range ts.length).map fun i => Td.reif ((j + i : Nat) : Int) (ts[i]?.getD ("", [], [], 0))
  | [], j => rfl
  | t :: ts, j => by
    rw [List.zipIdx_cons, List.map_cons, zip_at ts (j + 1), List.length_cons, List.range_succ_eq_map, List.map_cons, List.map_map]
    congr 1
    refine List.map_congr_left fun i _ => ?_
    show Td.reif _ _ = Td.reif _ _
    have : j + 1 + i = j + (i + 1) := by (first | lia | omega)
    rw [this]; rfl
theorem Gof_reifs (T : TsOk ts) {k : Nat} {t : TK} (h : ts[k]? = some t) : Gof (reifs ts) ((3 + k : Nat) : Int) = [.reif ((3 + k : Nat) : Int) t] := by
  obtain ⟨hk, _⟩ := List.getElem?_eq_some_iff.mp h
  unfold reifs
  rw [zip_at]
  unfold Gof
  rw [List.filter_map]
  have e : ∀ i, i < ts.length → ((fun d => decide (mx d = ((3 + k : Nat) : Int))) ∘ fun i => Td.reif ((3 + i : Nat) : Int) (ts[i]?.getD ("", [], [], 0))) i = decide (i = k) := fun i hi => by
    show decide (mx (Td.reif _ _) = _) = _
    rw [mx_reif T (i := i) (t := ts[i]?.getD ("", [], [], 0)) (by rw [List.getElem?_eq_getElem hi]; rfl), decide_eq_decide]
    (first | lia | omega)
  have e2 : (List.range ts.length).filter ((fun d => decide (mx d = ((3 + k : Nat) : Int))) ∘ fun i => Td.reif ((3 + i : Nat) : Int) (ts[i]?.getD ("", [], [], 0))) = (List.range ts.length).filter fun i => decide (i = k) :=
    List.filter_congr fun i hi => e i (List.mem_range.mp hi)
  rw [e2]
  have e3 : ∀ n, ((List.range n).filter fun i => decide (i = k)) = if k < n then [k] else [] := fun n => by
    induction n with
    | zero => rfl
    | succ n ih =>
      rw [List.range_succ, List.filter_append, ih]
      by_cases q : k < n
      · rw [if_pos q, if_pos (by (first | lia | omega)), List.filter_cons_of_neg (by simp; (first | lia | omega))]; rfl
      · rw [if_neg q]
        by_cases q2 : n = k
        · rw [if_pos (by (first | lia | omega)), List.filter_cons_of_pos (by simp [q2]), q2]; rfl
        · rw [if_neg (by (first | lia | omega)), List.filter_cons_of_neg (by simp [q2])]; rfl
  rw [e3, if_pos hk, List.map_cons, h]; rfl
theorem Gof_app (a c : List Td) (p : Int) : Gof (a ++ c) p = Gof a p ++ Gof c p := by unfold Gof; rw [List.filter_append]
noncomputable def okTo (D : List Td) (ts : List TK) (row : List Int) (k : Nat) : Bool := D.all fun d => decide (mx d < 3) || decide (((3 + k : Nat) : Int) ≤ mx d) || d.holds (ext row ts)
theorem rowsTo_eq (F : FinR b R ts D due) {row : List Int} (hr : row.length = 3) : ∀ k, k ≤ ts.length → rowsTo (Gof (reifs ts ++ D)) row k = if okTo D ts row k then [ext row (ts.take k)] else []
  | 0, _ => by
    have : okTo D ts row 0 = true := by
      unfold okTo
      rw [List.all_eq_true]
      intro d _
      by_cases q : mx d < 3
      · simp [q]
      · have : (3 : Int) ≤ mx d := by (first | lia | omega)
        simp [this]
    rw [if_pos this]; rfl
  | k + 1, hk => by
    have ih := rowsTo_eq F hr k (by (first | lia | omega))
    unfold rowsTo
    rw [ih]
    obtain ⟨t, ht⟩ : ∃ t, ts[k]? = some t := ⟨_, List.getElem?_eq_getElem (by (first | lia | omega))⟩
    by_cases hok : okTo D ts row k = true
    · rw [if_pos hok]
      generalize hone : ext row (ts.take k) = one
      have hlen : one.length = 3 + k := by rw [← hone, ext_len, hr, List.length_take]; (first | lia | omega)
      have hnext : ext row (ts.take (k + 1)) = one ++ [b01 (linH t one)] := by
        rw [List.take_succ, ht]
        show ext row (ts.take k ++ [t]) = _
        rw [ext_snoc, hone]
      have hlin : ∀ w, linH t (one ++ [w]) = linH t one := fun w => linH_congr fun x hx => by
        have := (F.T.ok k t ht).2.2.1 x hx
        exact atP_app this.1 (by rw [hlen]; exact this.2)
      have hat : ∀ w, atP (one ++ [w]) ((3 + k : Nat) : Int) = w := fun w => by rw [← hlen]; exact atP_last
      have hall : ∀ w, ((Gof (reifs ts ++ D) ((3 + k : Nat) : Int)).all fun d => d.holds (one ++ [w])) = ((linH t one == decide (w = 1)) && (Gof D ((3 + k : Nat) : Int)).all fun d => d.holds (one ++ [w])) := fun w => by
        rw [Gof_app, Gof_reifs F.T ht, List.all_append, List.all_cons, List.all_nil, Bool.and_true]
        show ((linH t (one ++ [w]) == decide (atP (one ++ [w]) ((3 + k : Nat) : Int) = 1)) && _) = _
        rw [hlin, hat]
      have hD : ((Gof D ((3 + k : Nat) : Int)).all fun d => d.holds (one ++ [b01 (linH t one)])) = (Gof D ((3 + k : Nat) : Int)).all fun d => d.holds (ext row ts) := by
        rw [← hnext, Bool.eq_iff_iff, List.all_eq_true, List.all_eq_true]
        have key : ∀ d ∈ Gof D ((3 + k : Nat) : Int), d.holds (ext row (ts.take (k + 1))) = d.holds (ext row ts) := fun d hd => by
          obtain ⟨h1, h2⟩ := mem_Gof.mp hd
          exact holds_take F hr h1 (by (first | lia | omega))
        exact ⟨fun h d hd => by rw [← key d hd]; exact h d hd, fun h d hd => by rw [key d hd]; exact h d hd⟩
      have hok2 : okTo D ts row (k + 1) = ((Gof D ((3 + k : Nat) : Int)).all fun d => d.holds (ext row ts)) := by
        rw [Bool.eq_iff_iff]
        unfold okTo at hok ⊢
        rw [List.all_eq_true] at hok ⊢
        rw [List.all_eq_true]
        constructor
        · intro h d hd
          obtain ⟨h1, h2⟩ := mem_Gof.mp hd
          have := h d h1
          simp only [Bool.or_eq_true, decide_eq_true_eq] at this
          rcases this with (q | q) | q
          · (first | lia | omega)
          · (first | lia | omega)
          · exact q
        · intro h d hd
          have := hok d hd
          simp only [Bool.or_eq_true, decide_eq_true_eq] at this ⊢
          rcases this with (q | q) | q
          · exact .inl (.inl q)
          · by_cases e : mx d = ((3 + k : Nat) : Int)
            · exact .inr (h d (mem_Gof.mpr ⟨hd, e⟩))
            · exact .inl (.inr (by (first | lia | omega)))
          · exact .inr q
      unfold stepRows
      rw [List.flatMap_cons, List.flatMap_nil, List.append_nil]
      have hfil : (([0, 1] : List Int).filter fun w => (Gof (reifs ts ++ D) ((3 + k : Nat) : Int)).all fun d => d.holds (one ++ [w])) = if okTo D ts row (k + 1) then [b01 (linH t one)] else [] := by
        rw [hok2, ← hD]
        simp only [List.filter_cons, List.filter_nil, hall]
        cases hl : linH t one with
        | true =>
          show (if ((true == decide ((0 : Int) = 1)) && _) = true then _ else _) = _
          simp [b01]
        | false => simp [b01]
      rw [hfil, hnext]
      split <;> rfl
    · have hok' : okTo D ts row k = false := by simpa using hok
      have hok2 : okTo D ts row (k + 1) = false := by
        rw [Bool.eq_false_iff] at hok' ⊢
        intro h
        refine hok' ?_
        unfold okTo at h ⊢
        rw [List.all_eq_true] at h ⊢
        intro d hd
        have := h d hd
        simp only [Bool.or_eq_true, decide_eq_true_eq] at this ⊢
        rcases this with (q | q) | q
        · exact .inl (.inl q)
        · exact .inl (.inr (by (first | lia | omega)))
        · exact .inr q
      rw [if_neg hok, if_neg (by rw [hok2]; decide)]; rfl
theorem manyF_eq (F : FinR b R ts D due) {row : List Int} (hr : row.length = 3) (hR : R row) : manyF (Gof (reifs ts ++ D)) row ts.length = b01 (due row) := by
  rw [← F.sem row hR]
  unfold manyF
  rw [rowsTo_eq F hr _ (Nat.le_refl _), List.take_length]
  have hex : ∀ d ∈ D, mx d < 3 → d.holds row = d.holds (ext row ts) := fun d hd h => by
    have := holds_take F hr (k := 0) hd (by (first | lia | omega))
    rw [List.take_zero] at this
    exact this
  have he : ((early.flatMap (Gof (reifs ts ++ D))).all fun d => d.holds row) = D.all fun d => !decide (mx d < 3) || d.holds (ext row ts) := by
    rw [Bool.eq_iff_iff, List.all_eq_true, List.all_eq_true]
    constructor
    · intro h d hd
      by_cases q : mx d < 3
      · have h0 := mx_ge d
        have : d.holds row = true := h d (List.mem_flatMap.mpr ⟨mx d, by
          unfold early
          have : mx d = -1 ∨ mx d = 0 ∨ mx d = 1 ∨ mx d = 2 := by (first | lia | omega)
          rcases this with e | e | e | e <;> rw [e] <;> decide, mem_Gof.mpr ⟨List.mem_append_right _ hd, rfl⟩⟩)
        rw [← hex d hd q, this]; simp
      · simp [q]
    · intro h d hd
      obtain ⟨p, hp, hd⟩ := List.mem_flatMap.mp hd
      have hp3 : p < 3 := by unfold early at hp; simp at hp; (first | lia | omega)
      obtain ⟨h1, h2⟩ := mem_Gof.mp hd
      rcases List.mem_append.mp h1 with h1 | h1
      · obtain ⟨i, t, g1, rfl⟩ := reifs_mem h1
        rw [mx_reif F.T g1] at h2; (first | lia | omega)
      · have := h d h1
        rw [hex d h1 (by (first | lia | omega))]
        simpa [show mx d < 3 by (first | lia | omega)] using this
  rw [he]
  have hk : okTo D ts row ts.length = D.all fun d => decide (mx d < 3) || d.holds (ext row ts) := by
    unfold okTo
    rw [Bool.eq_iff_iff, List.all_eq_true, List.all_eq_true]
    have key : ∀ d ∈ D, decide (((3 + ts.length : Nat) : Int) ≤ mx d) = false := fun d hd => by
      have := mx_lt (d := d) (N := ((3 + ts.length : Nat) : Int)) (fun x hx => ((F.ok d hd).2.1 x hx).2) (by (first | lia | omega))
      rw [decide_eq_false_iff_not]; (first | lia | omega)
    exact ⟨fun h d hd => by have := h d hd; rw [key d hd, Bool.or_false] at this; exact this, fun h d hd => by rw [key d hd, Bool.or_false]; exact h d hd⟩
  rw [hk]
  have hone := F.one
  match D, hone with
  | [], _ => rfl
  | [d], _ =>
    simp only [List.all_cons, List.all_nil, Bool.and_true]
    by_cases q : mx d < 3
    · simp only [q, decide_true, Bool.not_true, Bool.false_or, Bool.true_or, ↓reduceIte]
      cases d.holds (ext row ts) <;> rfl
    · simp only [q, decide_false, Bool.not_false, Bool.true_or, Bool.false_or, ↓reduceIte]
      cases d.holds (ext row ts) <;> rfl
theorem rowsTo_len (F : FinR b R ts D due) {row : List Int} (hr : row.length = 3) {k : Nat} (hk : k ≤ ts.length) : (rowsTo (Gof (reifs ts ++ D)) row k).length < 1000 := by
  rw [rowsTo_eq F hr k hk]; split <;> simp
end

/-! part C15 -/
noncomputable def d0Of (low hole : Int) : List (Int × Int) := if hole = 0 then [(low, low + 2)] else [(low, low + 1), (low + 3, low + 3)]
noncomputable def baseOf (low hole base : Int) : Base := ⟨d0Of low hole, [(base, base + 1)], [(0, 1)]⟩
noncomputable def gOf (r : Int) : Int := if r = 0 then 1 else 10 ^ 18
theorem gOf_bd (r : Int) : 1 ≤ gOf r ∧ gOf r ≤ 10 ^ 18 := by unfold gOf; split <;> decide
theorem WpS_stage {c : Cx} {n : Nat} {sc : Scope} {m : Loc} {σ : List O} {st : Stmt} {ss : List Stmt} {Φ : Fl → Loc → List O → Prop} (I : Loc → List O → Prop) (h1 : ∀ Ψ : Fl → Loc → List O → Prop, (∀ m' σ', I m' σ' → Ψ .next m' σ') → WpX c n sc m σ st Ψ)
    (h2 : ∀ m' σ', I m' σ' → WpS c n sc m' σ' ss Φ) : WpS c n sc m σ (st :: ss) Φ := WpS_cons (h1 _ fun m' σ' hi => h2 m' σ' hi)
noncomputable def lawB (k : Nat) : List Stmt := bd_law.1.drop k
noncomputable def lawP (Ψ : V → List O → Prop) : Fl → Loc → List O → Prop := fun fl _ σ' => match fl with | .ret v => Ψ v σ' | _ => Ψ .none σ'
structure GrpOk (es : List (Int × V)) (σ : List O) (G : Int → List Td) : Prop where
  non : ∀ p, getK es p = none → G p = []
  som : ∀ p v, getK es p = some v → ∃ i, v = V.ref i ∧ 8 ≤ i ∧ σ[i]? = some (O.list ((G p).map Td.v))
  inj : ∀ p q i, getK es p = some (V.ref i) → getK es q = some (V.ref i) → p = q
theorem getK_snoc (es : List (Int × V)) (k p : Int) (v : V) : getK (es ++ [(k, v)]) p = match getK es p with | some x => some x | none => if k = p then some v else none := by
  unfold getK
  rw [List.find?_append]
  cases h : es.find? fun e => decide (e.1 = p) with
  | some x => rfl
  | none =>
    by_cases q : k = p
    · simp [q]
    · simp [q]
theorem Gof_snoc (done : List Td) (d : Td) (p : Int) : Gof (done ++ [d]) p = Gof done p ++ if mx d = p then [d] else [] := by
  rw [Gof_app]
  congr 1
  unfold Gof
  by_cases q : mx d = p
  · rw [if_pos q, List.filter_cons_of_pos (by simp [q])]; rfl
  · rw [if_neg q, List.filter_cons_of_neg (by simp [q])]; rfl
theorem grp_old {es : List (Int × V)} {σ : List O} {done : List Td} {d : Td} {i : Nat} (G : GrpOk es σ (Gof done)) (h : getK es (mx d) = some (V.ref i)) :
    GrpOk es ((σ ++ [O.list []]).set i (O.list ((Gof done (mx d)).map Td.v ++ [d.v]))) (Gof (done ++ [d])) := by
  refine ⟨fun p hp => ?_, fun p v hp => ?_, G.inj⟩
  · have hne : mx d ≠ p := fun e => by rw [e, hp] at h; cases h
    rw [Gof_snoc, if_neg hne, G.non p hp]; rfl
  · obtain ⟨i', rfl, h8, hat⟩ := G.som p v hp
    refine ⟨i', rfl, h8, ?_⟩
    obtain ⟨hlt, _⟩ := List.getElem?_eq_some_iff.mp hat
    rw [Gof_snoc]
    by_cases e : mx d = p
    · subst e
      rw [h] at hp
      cases hp
      rw [if_pos rfl, List.getElem?_set_self (by rw [List.length_append]; (first | lia | omega)), List.map_append]; rfl
    · have hne : i ≠ i' := fun q => e (G.inj _ _ i h (by rw [q]; exact hp))
      rw [if_neg e, List.append_nil, List.getElem?_set_ne hne, List.getElem?_append_left hlt]
      exact hat
theorem grp_new {es : List (Int × V)} {σ : List O} {done : List Td} {d : Td} (G : GrpOk es σ (Gof done)) (h8 : 8 ≤ σ.length) (h : getK es (mx d) = none) :
    GrpOk (es ++ [(mx d, V.ref σ.length)]) (((σ ++ [O.list []]).set 6 (O.idict (es ++ [(mx d, V.ref σ.length)]))).set σ.length (O.list ([] ++ [d.v]))) (Gof (done ++ [d])) := by
  have hlast : ∀ x : O, (((σ ++ [O.list []]).set 6 x).set σ.length (O.list ([] ++ [d.v])))[σ.length]? = some (O.list ([] ++ [d.v])) := fun x => by
    rw [List.getElem?_set_self (by rw [List.length_set, List.length_append]; simp)]
  refine ⟨fun p hp => ?_, fun p v hp => ?_, fun p q i hp hq => ?_⟩
  · rw [getK_snoc] at hp
    cases q : getK es p with
    | some x => rw [q] at hp; cases hp
    | none =>
      rw [q] at hp
      have hne : mx d ≠ p := fun e => by simp [e] at hp
      rw [Gof_snoc, if_neg hne, G.non p q]; rfl
  · rw [getK_snoc] at hp
    cases q : getK es p with
    | some x =>
      rw [q] at hp
      cases hp
      obtain ⟨i', rfl, h8', hat⟩ := G.som p _ q
      obtain ⟨hlt, _⟩ := List.getElem?_eq_some_iff.mp hat
      have hne : mx d ≠ p := fun e => by rw [← e, h] at q; cases q
      refine ⟨i', rfl, h8', ?_⟩
      rw [Gof_snoc, if_neg hne, List.append_nil, List.getElem?_set_ne (by (first | lia | omega)), List.getElem?_set_ne (by (first | lia | omega)), List.getElem?_append_left hlt]
      exact hat
    | none =>
      rw [q] at hp
      by_cases e : mx d = p
      · simp only [if_pos e] at hp
        cases hp
        refine ⟨_, rfl, h8, ?_⟩
        rw [hlast, Gof_snoc, if_pos e, G.non p q]; rfl
      · simp [e] at hp
  · rw [getK_snoc] at hp hq
    cases h1 : getK es p with
    | some x =>
      rw [h1] at hp; cases hp
      obtain ⟨i', e1, h8', hat⟩ := G.som p _ h1
      obtain ⟨hlt, _⟩ := List.getElem?_eq_some_iff.mp hat
      cases e1
      cases h2 : getK es q with
      | some y => rw [h2] at hq; cases hq; exact G.inj p q i h1 h2
      | none =>
        rw [h2] at hq
        by_cases e : mx d = q
        · simp only [if_pos e] at hq; cases hq; (first | lia | omega)
        · simp [e] at hq
    | none =>
      rw [h1] at hp
      by_cases e : mx d = p
      · simp only [if_pos e] at hp
        cases hp
        cases h2 : getK es q with
        | some y =>
          rw [h2] at hq; cases hq
          obtain ⟨i', e1, h8', hat⟩ := G.som q _ h2
          obtain ⟨hlt, _⟩ := List.getElem?_eq_some_iff.mp hat
          cases e1; (first | lia | omega)
        | none =>
          rw [h2] at hq
          by_cases e2 : mx d = q
          · (first | lia | omega)
          · simp [e2] at hq
      · simp [e] at hp
theorem GrpOk.late {es : List (Int × V)} {σ : List O} {G : Int → List Td} (h : GrpOk es σ G) : LateOk σ es G := fun place ρ k hk => by
  cases q : getK es place with
  | none =>
    have := h.non place q
    rw [this] at hk
    exact hk none fun _ => trivial
  | some v =>
    obtain ⟨i, rfl, _, hat⟩ := h.som place v q
    obtain ⟨hlt, _⟩ := List.getElem?_eq_some_iff.mp hat
    refine items_ref (xs := (G place).map Td.v) (by rw [List.getElem?_append_left hlt]; exact hat) (hk _ fun ρ' => ?_)
    show (σ ++ ρ')[i]? = _
    rw [List.getElem?_append_left hlt]; exact hat
noncomputable def wV (p : List Int × Int) : V := .tup [lineV p.1, .int p.2]
noncomputable def dueOf (last w goal : Int) : Bool := if last = 0 then true else if last = 1 then false else if last = 2 then decide (w ≤ goal) else !decide (w = goal)
section
variable {c : Cx} {n : Nat} {b : Base} {R : List Int → Prop} {ts : List TK} {D : List Td} {due : List Int → Bool} {fd : O}
set_option maxHeartbeats 16000000 in
theorem T17 (t : Txt c) (FN : FinR b R ts D due) {wl : List (List Int × Int)} {last goal : Int} {m : Loc} {Ψ : V → List O → Prop} (hΨ : ∀ σ', Ψ (.bool true) σ') (hl : 0 ≤ last ∧ last < 4)
    (hw : ∀ p ∈ wl, R p.1 ∧ p.1.length = 3 ∧ Small p.1 ∧ due p.1 = dueOf last p.2 goal) (h1 : m "gatherer" = some (.inst 269 1)) (h2 : m "late" = some (.ref 6)) (h3 : m "worths" = some (.ref 7)) (h4 : m "last" = some (.int last)) (h5 : m "goal" = some (.int goal)) :
    WpS c (n + 11) fd_law.1.scope m (St fd (varsV b (3 + ts.length)) (toldsV ts ++ D.map Td.v) (madeV ts) [.idict [], .list (wl.map wV)]) (lawB 17) (lawP Ψ) := by
  unfold lawB bd_law lawP
  dsimp only
  have htv : toldsV ts ++ D.map Td.v = (reifs ts ++ D).map Td.v := by rw [toldsV_reifs, List.map_append]
  rw [htv]
  have hmem := fun d => Fin_mem FN (d := d)
  generalize hds : reifs ts ++ D = ds at hmem
  show WpS _ _ _ _ (Sl fd b (3 + ts.length) (ds.map Td.v) (madeV ts) [] [.list (wl.map wV)]) _ _
  have hdl : ds.length < 1000 := by
    rw [← hds, List.length_append]
    have : (reifs ts).length = ts.length := by unfold reifs; rw [List.length_map, List.length_zipIdx]
    have := FN.one; have := FN.len
    (first | lia | omega)
  refine WpS_stage (fun m' σ' => ∃ es ls, σ' = Sl fd b (3 + ts.length) (ds.map Td.v) (madeV ts) es (.list (wl.map wV) :: ls) ∧ GrpOk es σ' (Gof ds) ∧ m' "gatherer" = some (.inst 269 1) ∧ m' "late" = some (.ref 6) ∧ m' "worths" = some (.ref 7) ∧ m' "last" = some (.int last) ∧ m' "goal" = some (.int goal)) (fun Ψ1 hS => WpX_for ?_) ?_
  · refine WpE_attr (A_tolds t) ?_ (by intro _; with_unfolding_all rfl)
    refine WpE_attr (A_flat t) ?_ (by intro _; with_unfolding_all rfl)
    repeat walk_at "e"
    refine ⟨1, _, .inst 80 2, rfl, rfl, rfl, ?_⟩
    refine ⟨2, _, .ref 4, rfl, rfl, rfl, ?_⟩
    refine items_ref (xs := ds.map Td.v) rfl ?_
    refine forGo_inv (fun vs m' σ' => ∃ (done rest : List Td) (es : List (Int × V)) (ls : List O), done ++ rest = ds ∧ vs = rest.map Td.v ∧ σ' = Sl fd b (3 + ts.length) (ds.map Td.v) (madeV ts) es (.list (wl.map wV) :: ls) ∧ GrpOk es σ' (Gof done) ∧ es.length ≤ done.length ∧ m' "gatherer" = some (.inst 269 1) ∧
      m' "late" = some (.ref 6) ∧ m' "worths" = some (.ref 7) ∧ m' "last" = some (.int last) ∧ m' "goal" = some (.int goal)) ?_ ?_ _ _ _ ⟨[], ds, [], [], rfl, rfl, rfl, ⟨fun _ _ => rfl, fun p v h => by simp [getK] at h, fun p q i h => by simp [getK] at h⟩, by simp, h1, h2, h3, h4, h5⟩
    · rintro m σ' ⟨done, rest, es, ls, hd, hvs, rfl, G, hel, h1, h2, h3, h4, h5⟩
      have : rest = [] := by simpa using hvs.symm
      subst this
      rw [List.append_nil] at hd
      subst hd
      exact ⟨rfl, hS _ _ ⟨es, ls, rfl, G, h1, h2, h3, h4, h5⟩⟩
    · rintro v vs m σ' ⟨done, rest, es, ls, hd, hvs, rfl, G, hel, h1, h2, h3, h4, h5⟩
      obtain ⟨d, rest, rfl⟩ : ∃ y ys', rest = y :: ys' := by cases rest with
        | nil => simp at hvs
        | cons y ys' => exact ⟨y, ys', rfl⟩
      simp only [List.map_cons, List.cons.injEq] at hvs
      obtain ⟨rfl, rfl⟩ := hvs
      obtain ⟨hdo, hdr, hda⟩ := hmem d (by rw [← hd]; simp)
      have hdone : done.length < 1000 := by rw [← hd, List.length_append] at hdl; (first | lia | omega)
      refine ⟨rfl, _, asg_name (.inl (by decide +kernel)), ?_⟩
      refine gen3 fun Ψ hΨ => ?_
      refine WpS_cons (WpX_expr ?_ (by intro env h; simp only [interactive, h]; decide +kernel) (by intro _; with_unfolding_all rfl))
      refine WpE_mB F.plainAttrs_list F.slot_list_append F.type_list_append (by intro _; with_unfolding_all rfl) (by intro _ _; with_unfolding_all rfl) ?_
      refine WpE_mB F.plainAttrs_dict F.slot_dict_setdefault F.type_dict_setdefault (by intro _; with_unfolding_all rfl) (by intro _ _; with_unfolding_all rfl) ?_
      repeat walk_at "e"
      refine ⟨6, _, rfl, rfl, rfl, ?_⟩
      repeat walk_at "e"
      refine WpE_call _ (B_max t) trivial ?_
      repeat walk_at "e"
      refine WpE_call _ (G_law_about t) (C_law_about t) ?_
      repeat walk_at "e"
      refine WpC.room (k := n + 1) (S_about t hdo hda ?_) (by (first | lia | omega))
      refine ⟨by rw [List.length_map]; unfold sizeLine; simp; (first | lia | omega), ?_⟩
      repeat walk_at "e"
      show WpC _ _ _ _ [.tup (((-1) :: d.about).map V.int)] _
      refine WpC_maxT (by simp) fun r hr1 hr2 => ?_
      have hr := mx_is hr1 hr2
      subst hr
      repeat walk_at "e"
      refine WpE_listT ?_ (by rfl) (by intro _ _; with_unfolding_all rfl)
      repeat walk_at "e"
      have hgl : ((Gof done (mx d)).map Td.v).length < 1000000 := by
        rw [List.length_map]
        have : (Gof done (mx d)).length ≤ done.length := List.length_filter_le _ _
        (first | lia | omega)
      cases hk : getK es (mx d) with
      | some v =>
        obtain ⟨i, rfl, h8, hat⟩ := G.som _ _ hk
        have G' := grp_old G hk
        obtain ⟨hlt, _⟩ := List.getElem?_eq_some_iff.mp hat
        have hat2 : (Sl fd b (3 + ts.length) (ds.map Td.v) (madeV ts) es (.list (wl.map wV) :: ls) ++ [O.list []])[i]? = some (.list ((Gof done (mx d)).map Td.v)) := by rw [List.getElem?_append_left hlt]; exact hat
        refine WpC_setdefault (es := es) rfl (by (first | lia | omega)) ?_
        rw [hk]
        refine ⟨i, _, rfl, hat2, rfl, ?_⟩
        repeat walk_at "e"
        refine WpC_append hat2 hgl ?_
        refine ⟨trivial, WpS_nil ?_⟩
        refine hΨ .next _ _ ?_
        obtain ⟨j, rfl⟩ : ∃ j, i = j + 8 := ⟨i - 8, by (first | lia | omega)⟩
        exact ⟨done ++ [d], rest, es, _, by rw [List.append_assoc]; exact hd, rfl, rfl, G', by rw [List.length_append]; (first | lia | omega), h1, h2, h3, h4, h5⟩
      | none =>
        have G' := grp_new G (by show 8 ≤ ls.length + 8; (first | lia | omega)) hk
        refine WpC_setdefault (es := es) rfl (by (first | lia | omega)) ?_
        rw [hk]
        have hat2 : ((Sl fd b (3 + ts.length) (ds.map Td.v) (madeV ts) es (.list (wl.map wV) :: ls) ++ [O.list []]).set 6 (.idict (es ++ [(mx d, .ref (Sl fd b (3 + ts.length) (ds.map Td.v) (madeV ts) es (.list (wl.map wV) :: ls)).length)])))[(Sl fd b (3 + ts.length) (ds.map Td.v) (madeV ts) es (.list (wl.map wV) :: ls)).length]? = some (.list []) := by
          rw [List.getElem?_set_ne (by show 6 ≠ ls.length + 8; (first | lia | omega))]; exact last_at
        refine ⟨_, _, rfl, hat2, rfl, ?_⟩
        repeat walk_at "e"
        refine WpC_append hat2 (by simp) ?_
        refine ⟨trivial, WpS_nil ?_⟩
        refine hΨ .next _ _ ?_
        exact ⟨done ++ [d], rest, _, _, by rw [List.append_assoc]; exact hd, rfl, rfl, G', by rw [List.length_append, List.length_append]; simp; (first | lia | omega), h1, h2, h3, h4, h5⟩
  rintro m σ ⟨es, ls, rfl, G, h1, h2, h3, h4, h5⟩
  have hlast : FN.T = FN.T := rfl
  refine WpS_stage (fun _ _ => True) (fun Ψ1 hS => WpX_for ?_) ?_
  · repeat walk_at "e"
    refine items_ref (xs := wl.map wV) rfl ?_
    refine forGo_inv (fun vs m' σ' => ∃ rest : List (List Int × Int), (∀ p ∈ rest, p ∈ wl) ∧ vs = rest.map wV ∧ σ' = Sl fd b (3 + ts.length) (ds.map Td.v) (madeV ts) es (.list (wl.map wV) :: ls) ∧ m' "gatherer" = some (.inst 269 1) ∧
      m' "late" = some (.ref 6) ∧ m' "last" = some (.int last) ∧ m' "goal" = some (.int goal)) ?_ ?_ _ _ _ ⟨wl, fun p h => h, rfl, rfl, h1, h2, h4, h5⟩
    · rintro m σ' ⟨rest, hr, hvs, rfl, h1, h2, h4, h5⟩
      exact ⟨rfl, hS _ _ trivial⟩
    · rintro v vs m σ' ⟨rest, hr, hvs, rfl, h1, h2, h4, h5⟩
      obtain ⟨p, rest, rfl⟩ : ∃ y ys', rest = y :: ys' := by cases rest with
        | nil => simp at hvs
        | cons y ys' => exact ⟨y, ys', rfl⟩
      simp only [List.map_cons, List.cons.injEq] at hvs
      obtain ⟨rfl, rfl⟩ := hvs
      obtain ⟨hR, hr3, hsm, hdue⟩ := hw p (hr p List.mem_cons_self)
      refine ⟨rfl, _, asg_pair (.inl (by decide +kernel)) (.inl (by decide +kernel)), ?_⟩
      refine gen3 fun Ψ hΨ => ?_
      refine WpS_cons ?_
      walk_at "s"
      repeat walk_at "e"
      show WpEs _ _ _ _ _ _ _
      repeat walk_at "e"
      refine ⟨by rfl, by rfl, ?_⟩
      rw [eqV_int]
      repeat walk_at "e"
      refine ⟨⟨by (first | lia | omega), by (first | lia | omega)⟩, .bool (dueOf last p.2 goal), ?_, ?_⟩
      · have : last = 0 ∨ last = 1 ∨ last = 2 ∨ last = 3 := by (first | lia | omega)
        rcases this with rfl | rfl | rfl | rfl <;> rfl
      rw [← hdue]
      refine WpS_cons (WpX_if ?_)
      repeat walk_at "e"
      refine WpE_call _ (G_law_many t) (C_law_many t) ?_
      walk_at "e"
      refine WpE_attr (A_flat t) ?_ (by intro _; with_unfolding_all rfl)
      repeat walk_at "e"
      refine ⟨1, _, .inst 80 2, rfl, rfl, rfl, ?_⟩
      repeat walk_at "e"
      have hN : 3 + ts.length - 3 = ts.length := by (first | lia | omega)
      have hle := FN.len
      have hlate := G.late
      refine WpC.room (k := n + 3) (S_many t (Gof ds) (N := 3 + ts.length) (by (first | lia | omega)) (by (first | lia | omega)) hr3 hsm hlate (fun place d hd => ?_) (fun place => ?_) (fun place hp d hd x hx => ?_) (fun q hq1 hq2 d hd x hx => ?_) (fun k hk => ?_) ?_) (by (first | lia | omega))
      · obtain ⟨a1, a2, a3⟩ := hmem d (mem_Gof.mp hd).1
        exact ⟨a1, a3⟩
      · have : (Gof ds place).length ≤ ds.length := List.length_filter_le _ _
        (first | lia | omega)
      · obtain ⟨g1, g2⟩ := mem_Gof.mp hd
        have := ((hmem d g1).2.1 x hx).1
        have := about_le hx
        unfold early at hp; simp at hp; (first | lia | omega)
      · obtain ⟨g1, g2⟩ := mem_Gof.mp hd
        have := ((hmem d g1).2.1 x hx).1
        have := about_le hx
        (first | lia | omega)
      · rw [← hds]; exact rowsTo_len FN hr3 (by (first | lia | omega))
      rw [hN, ← hds, manyF_eq FN hr3 hR]
      repeat walk_at "e"
      refine WpE_call _ (B_int t) trivial ?_
      repeat walk_at "e"
      refine WpC_intB ?_
      refine ⟨by rfl, by rfl, ?_⟩
      rw [eqV_int]
      refine ifF (by show (!decide (b01 (due p.1) = b01 (due p.1))) = false; simp) ?_
      repeat refine WpS_nil ?_
      refine hΨ .next _ _ ?_
      exact ⟨rest, fun q hq => hr q (List.mem_cons_of_mem _ hq), rfl, by rw [hds], h1, h2, h4, h5⟩
  · intro m σ _
    refine WpS_cons (WpX_return ?_)
    repeat walk_at "e"
    exact hΨ _
end

/-! part D7 -/
noncomputable def Drow : Sum Bool TK → List Td
  | .inl true => []
  | .inl false => [.clause [] []]
  | .inr t => [.lin t]
theorem Drow_v (r : Sum Bool TK) : extraR r = (Drow r).map Td.v := by
  cases r with
  | inl b => cases b <;> rfl
  | inr t => rfl
noncomputable def Dtr : Tr → List Td
  | .bool true => []
  | .bool false => [.clause [] []]
  | .bit x true => [.clause [x] []]
  | .bit x false => [.clause [] [x]]
theorem Dtr_v (r : Tr) : extraT r = (Dtr r).map Td.v := by
  cases r with
  | bool b => cases b <;> rfl
  | bit x u => cases u <;> rfl
section
variable {b : Base} {R : List Int → Prop} {ts : List TK} {s : Sm} {C : Int}
theorem Fin_row (hR : ∀ row, R row → RowGood b row) (T : TsOk ts) (hl : ts.length ≤ 100) (hs : SmB (3 + ts.length) C s) (hC : C < 10 ^ 60) (k : Rk) : FinR b R ts (Drow (rowF b k s)) (fun row => relB k (ev s (atP (ext row ts)))) := by
  have so := hs.ok (ts := ts) hC (by (first | lia | omega))
  have sem : ∀ row, R row → (∀ r, rowF b k s = .inl r → r = relB k (ev s (atP (ext row ts)))) ∧ (∀ t, rowF b k s = .inr t → linH t (ext row ts) = relB k (ev s (atP (ext row ts)))) := fun row hr =>
    rowF_sem ((hR row hr).ext ts) (fun p hp => hs.x p hp) hs.nz so.bd
  have hlen := hs.len
  cases hr : rowF b k s with
  | inl r =>
    cases r with
    | true => exact ⟨T, hl, by simp [Drow], fun d hd => by simp [Drow] at hd, fun row hrr => ((sem row hrr).1 _ hr)⟩
    | false =>
      refine ⟨T, hl, by simp [Drow], fun d hd => ?_, fun row hrr => ?_⟩
      · simp only [Drow, List.mem_singleton] at hd
        subst hd
        exact ⟨trivial, fun x hx => by simp [Td.about] at hx, by simp [Td.about]⟩
      · rw [← (sem row hrr).1 _ hr]; rfl
  | inr t =>
    refine ⟨T, hl, by simp [Drow], fun d hd => ?_, fun row hrr => ?_⟩
    · simp only [Drow, List.mem_singleton] at hd
      subst hd
      obtain ⟨rfl, hp⟩ := rowF_inr hr
      refine ⟨⟨⟨k, rfl⟩, by simp [tolds]⟩, fun x hx => ?_, ?_⟩
      · have hx' : x ∈ s.parts.map (·.1) := hx
        obtain ⟨p, hp, rfl⟩ := List.mem_map.mp hx'
        exact hs.x p hp
      · show (s.parts.map (·.1)).length < 900
        rw [List.length_map]; (first | lia | omega)
    · rw [← (sem row hrr).2 _ hr]
      show (linH t (ext row ts) && true) = _
      rw [Bool.and_true]
theorem Fin_tr (hR : ∀ row, R row → RowGood b row) (T : TsOk ts) (hl : ts.length ≤ 100) {tr : Tr} (hi : trIn (3 + ts.length) tr) (hb : bitOk b tr) {due : List Int → Bool} (hs : ∀ row, R row → trH (ext row ts) tr = due row) : FinR b R ts (Dtr tr) due := by
  cases tr with
  | bool r =>
    cases r with
    | true => exact ⟨T, hl, by simp [Dtr], fun d hd => by simp [Dtr] at hd, fun row hr => hs row hr⟩
    | false =>
      refine ⟨T, hl, by simp [Dtr], fun d hd => ?_, fun row hr => hs row hr⟩
      simp only [Dtr, List.mem_singleton] at hd
      subst hd
      exact ⟨trivial, fun x hx => by simp [Td.about] at hx, by simp [Td.about]⟩
  | bit x u =>
    have h01 := fun row hr => bit01 (hR row hr) hb hi x u rfl
    have hi' : 0 ≤ x ∧ x < ((3 + ts.length : Nat) : Int) := hi
    cases u with
    | true =>
      refine ⟨T, hl, by simp [Dtr], fun d hd => ?_, fun row hr => ?_⟩
      · simp only [Dtr, List.mem_singleton] at hd
        subst hd
        exact ⟨trivial, fun y hy => by simp [Td.about] at hy; subst hy; exact hi', by simp [Td.about]⟩
      · rw [← hs row hr]
        have := h01 row hr
        show (((decide (atP (ext row ts) x = 1) || false) || false) && true) = (decide (atP (ext row ts) x = 1) == true)
        cases decide (atP (ext row ts) x = 1) <;> rfl
    | false =>
      refine ⟨T, hl, by simp [Dtr], fun d hd => ?_, fun row hr => ?_⟩
      · simp only [Dtr, List.mem_singleton] at hd
        subst hd
        exact ⟨trivial, fun y hy => by simp [Td.about] at hy; subst hy; exact hi', by simp [Td.about]⟩
      · rw [← hs row hr]
        have := h01 row hr
        show ((false || (decide (atP (ext row ts) x = 0) || false)) && true) = (decide (atP (ext row ts) x = 1) == false)
        generalize atP (ext row ts) x = v at this
        rcases this with rfl | rfl <;> rfl
end

/-! part C16 -/
noncomputable def moreOf (i g : Int) : Int := if i = 0 then 0 else if i = 1 then g - 1 else g.fdiv 2
theorem moreOf_bd {i g : Int} (hg : 1 ≤ g) : 0 ≤ moreOf i g ∧ moreOf i g < g := by
  unfold moreOf
  have h1 : g.fdiv 2 = g / 2 := Int.fdiv_eq_ediv_of_nonneg _ (by decide)
  rw [h1]
  split
  · (first | lia | omega)
  · split <;> (first | lia | omega)
theorem FinR.congr {b : Base} {R : List Int → Prop} {ts : List TK} {D : List Td} {due due' : List Int → Bool} (h : FinR b R ts D due) (e : ∀ row, R row → due row = due' row) : FinR b R ts D due' := ⟨h.T, h.len, h.one, h.ok, fun row hr => (h.sem row hr).trans (e row hr)⟩
theorem found_bd {b : Base} {R : List Int → Prop} {ts : List TK} {found : Sm} {F : List Int → Int} (FR : FoundR b R ts found 40 F) : SmB (3 + ts.length) (50 * U) found := FR.sm.mono (Nat.le_refl _) (by decide)
section
variable {c : Cx} {n : Nat} {b : Base} {R : List Int → Prop} {W : List Int → Int}
theorem relB_le {g w goal : Int} (hg : 1 ≤ g) : relB .le (g * w - goal * g) = decide (w ≤ goal) := by
  have := le_iff (W := w) (k := goal) (more := 0) hg (by (first | lia | omega))
  unfold relB
  rw [decide_eq_decide, ← this]
  (first | lia | omega)
theorem relB_eq {g w goal : Int} (hg : 1 ≤ g) : relB .eq (g * w - goal * g) = decide (w = goal) := by
  unfold relB
  rw [decide_eq_decide, eq_iff hg]
set_option maxHeartbeats 16000000 in
theorem T12 (t : Txt c) (o : b.Ok) (hR : ∀ row, R row → RowGood b row) {cs : List Int} (hcs : cs.length < 1000) {great : Int} (hg : 1 ≤ great ∧ great ≤ 10 ^ 18) {tot : Sv} (ht : SmB 3 U tot.sm) (hev : ∀ row, R row → ev tot.sm (atP row) = great * W row) {wl : List (List Int × Int)}
    (hne : wl ≠ []) (hz : wl.length < 100) (hw : ∀ p ∈ wl, R p.1 ∧ p.1.length = 3 ∧ Small p.1 ∧ p.2 = W p.1 ∧ -13 ≤ p.2 ∧ p.2 ≤ 13) (hRw : ∀ row, R row → (row, W row) ∈ wl)
    {m : Loc} {Ψ : V → List O → Prop} (hΨ : ∀ σ', Ψ (.bool true) σ') (h0 : m "feed" = some (.ref 0)) (h1 : m "gatherer" = some (.inst 269 1)) (h2 : m "late" = some (.ref 6)) (h3 : m "worths" = some (.ref 7)) (h4 : m "great" = some (.int great)) (h5 : m "total" = some tot.v) :
    WpS c (n + 11) fd_law.1.scope m (St (fdO cs 8) (varsV b 3) [] [] [.idict [], .list (wl.map wV)]) (lawB 12) (lawP Ψ) := by
  unfold lawB bd_law lawP
  dsimp only
  refine WpS_cons (WpX_swap ["bottom", "most"] ?_ (by intro env h; cases env; subst h; with_unfolding_all rfl) (by decide +kernel) (by intro env; with_unfolding_all rfl))
  walk_at "e"
  walk_at "e"
  refine WpE_call _ (B_min t) trivial ?_
  walk_at "e"
  refine WpE_comp1 ⟨rfl, by decide +kernel, by decide +kernel, by decide +kernel⟩ (by decide +kernel) ?_ (by intro _ _; with_unfolding_all rfl)
  repeat walk_at "e"
  refine ⟨rfl, ?_⟩
  refine items_ref (xs := wl.map wV) rfl ?_
  refine lvGo_mapE wV (fun _ => true) (fun p => .int p.2) (fun _ => True) wl _ [] trivial (by show 0 + _ < _; (first | lia | omega)) ?_ ?_
  · rintro p hp m' acc _
    refine ⟨_, asg_pair (.inl (by decide +kernel)) (.inl (by decide +kernel)), trivial, rfl, fun _ => ?_⟩
    repeat walk_at "e"
    exact ⟨rfl, rfl⟩
  intro m' _
  have hws : ([] : List V) ++ (wl.filter fun _ => true).map (fun p => V.int p.2) = (wl.map (·.2)).map V.int := by
    rw [List.nil_append, List.map_map, List.filter_eq_self.mpr fun _ _ => rfl]; rfl
  have hne2 : wl.map (·.2) ≠ [] := by simpa using hne
  rw [hws]
  refine ⟨rbs_ints _, ?_⟩
  repeat walk_at "e"
  refine WpC_minL hne2 fun bottom hb1 hb2 => ?_
  repeat walk_at "e"
  refine WpE_call _ (B_max t) trivial ?_
  walk_at "e"
  refine WpE_comp1 ⟨rfl, by decide +kernel, by decide +kernel, by decide +kernel⟩ (by decide +kernel) ?_ (by intro _ _; with_unfolding_all rfl)
  repeat walk_at "e"
  refine ⟨rfl, ?_⟩
  refine items_ref (xs := wl.map wV) rfl ?_
  refine lvGo_mapE wV (fun _ => true) (fun p => .int p.2) (fun _ => True) wl _ [] trivial (by show 0 + _ < _; (first | lia | omega)) ?_ ?_
  · rintro p hp m' acc _
    refine ⟨_, asg_pair (.inl (by decide +kernel)) (.inl (by decide +kernel)), trivial, rfl, fun _ => ?_⟩
    repeat walk_at "e"
    exact ⟨rfl, rfl⟩
  intro m' _
  rw [hws]
  refine ⟨rbs_ints _, ?_⟩
  repeat walk_at "e"
  refine WpC_maxL hne2 fun most hm1 hm2 => ?_
  repeat walk_at "e"
  refine ⟨_, rfl, rfl, ?_⟩
  have hbm : bottom ≤ most := hb2 _ hm1
  have hb13 : -13 ≤ bottom ∧ bottom ≤ 13 := by obtain ⟨p, hp, rfl⟩ := List.mem_map.mp hb1; exact (hw p hp).2.2.2.2
  have hm13 : -13 ≤ most ∧ most ≤ 13 := by obtain ⟨p, hp, rfl⟩ := List.mem_map.mp hm1; exact (hw p hp).2.2.2.2
  have hWb : ∀ row, R row → ev tot.sm (atP row) = great * W row ∧ bottom ≤ W row ∧ W row ≤ most := fun row hr =>
    ⟨hev row hr, hb2 _ (List.mem_map.mpr ⟨_, hRw row hr, rfl⟩), hm2 _ (List.mem_map.mpr ⟨_, hRw row hr, rfl⟩)⟩
  refine WpS_stage (fun m' σ' => ∃ way more last : Int, 0 ≤ way ∧ way < 3 ∧ 0 ≤ more ∧ more < great ∧ 0 ≤ last ∧ last < 4 ∧ σ' = St (fdO cs 11) (varsV b 3) [] [] [.idict [], .list (wl.map wV)] ∧ m' "feed" = some (.ref 0) ∧ m' "gatherer" = some (.inst 269 1) ∧ m' "late" = some (.ref 6) ∧ m' "worths" = some (.ref 7) ∧
    m' "great" = some (.int great) ∧ m' "total" = some tot.v ∧ m' "bottom" = some (.int bottom) ∧ m' "most" = some (.int most) ∧ m' "way" = some (.int way) ∧ m' "more" = some (.int more) ∧ m' "last" = some (.int last)) (fun Ψ1 hS => WpX_swap ["way", "more", "last"] ?_ (by intro env h; cases env; subst h; with_unfolding_all rfl) (by decide +kernel) (by intro env; with_unfolding_all rfl)) ?_
  · walk_at "e"
    walk_at "e"
    refine WpE_call _ (G_law_next t) (C_law_next t) ?_
    repeat walk_at "e"
    refine WpC.room (k := n + 1) (S_next t (by decide) (by decide) hcs (by decide) fun way w1 w2 => ?_) (by (first | lia | omega))
    repeat walk_at "e"
    show WpEs _ _ _ _ _ _ _
    repeat walk_at "e"
    refine ⟨by decide, by decide +kernel, ?_⟩
    repeat walk_at "e"
    refine WpE_call _ (G_law_next t) (C_law_next t) ?_
    repeat walk_at "e"
    refine WpC.room (k := n + 1) (S_next t (by decide) (by decide) hcs (by decide) fun mi i1 i2 => ?_) (by (first | lia | omega))
    repeat walk_at "e"
    refine ⟨⟨by (first | lia | omega), by (first | lia | omega)⟩, .int (moreOf mi great), ?_, ?_⟩
    · have : mi = 0 ∨ mi = 1 ∨ mi = 2 := by (first | lia | omega)
      rcases this with rfl | rfl | rfl <;> rfl
    obtain ⟨mo1, mo2⟩ := moreOf_bd (i := mi) hg.1
    generalize moreOf mi great = more at mo1 mo2
    repeat walk_at "e"
    refine WpE_call _ (G_law_next t) (C_law_next t) ?_
    repeat walk_at "e"
    refine WpC.room (k := n + 1) (S_next t (by decide) (by decide) hcs (by decide) fun last j1 j2 => ?_) (by (first | lia | omega))
    repeat walk_at "e"
    refine ⟨_, rfl, rfl, ?_⟩
    exact hS _ _ ⟨way, more, last, w1, w2, mo1, mo2, j1, j2, rfl, h0, h1, h2, h3, h4, h5, rfl, rfl, rfl, rfl, rfl⟩
  rintro m σ ⟨way, more, last, w1, w2, mo1, mo2, j1, j2, rfl, h0, h1, h2, h3, h4, h5, h6, h7, h8, h9, h10⟩
  refine WpS_cons ?_
  walk_at "s"
  refine WpE_call _ (G_law_put_together t) (C_law_put_together t) ?_
  repeat walk_at "e"
  refine WpC.room (k := n + 7) (S_put t o hR (R := R) (W := W) (total := tot) (way := way) (bottom := bottom) (most := most) (great := great) (more := more) ht ⟨w1, w2⟩ hb13.1 hbm hm13.2 hg ⟨mo1, mo2⟩ hWb fun found ts FR => ?_) (by (first | lia | omega))
  have hFb := found_bd FR
  have hlen := FR.len
  refine WpS_cons ?_
  walk_at "s"
  repeat walk_at "e"
  refine WpE_call _ (G_law_next t) (C_law_next t) ?_
  repeat walk_at "e"
  show WpE _ _ _ _ _ _ _
  repeat walk_at "e"
  show WpEs _ _ _ _ _ _ _
  repeat walk_at "e"
  refine WpC.room (k := n + 1) (S_next t (by decide) (by decide) hcs (by (first | lia | omega)) fun gd gd1 gd2 => ?_) (by (first | lia | omega))
  show WpS _ _ _ _ (Gs (fdO cs 12) b ts _) _ _
  have hgoal : -13 ≤ bottom + gd ∧ bottom + gd ≤ 13 := by (first | lia | omega)
  generalize hgg : bottom + gd = goal at hgoal
  have hgo := mul_bd hg (k := goal) (by (first | lia | omega))
  have hcU : -U ≤ goal * great ∧ goal * great ≤ U := by unfold U; (first | lia | omega)
  refine WpS_stage (fun m' σ' => ∃ ts' D, FinR b R ts' D (fun row => dueOf last (W row) goal) ∧ σ' = St (fdO cs 12) (varsV b (3 + ts'.length)) (toldsV ts' ++ D.map Td.v) (madeV ts') [.idict [], .list (wl.map wV)] ∧ m' "gatherer" = some (.inst 269 1) ∧ m' "late" = some (.ref 6) ∧ m' "worths" = some (.ref 7) ∧
    m' "last" = some (.int last) ∧ m' "goal" = some (.int goal)) (fun Ψ1 hS => ?_) ?_
  · refine WpX_if ?_
    repeat walk_at "e"
    refine ⟨by rfl, by rfl, ?_⟩
    rw [eqV_int]
    by_cases q0 : last = 0
    · refine ifT (decide_eq_true q0) ?_
      refine WpS_cons (WpX_expr ?_ (by intro env h; simp only [interactive, h]; decide +kernel) (by intro _; with_unfolding_all rfl))
      refine WpE_m (M_require_row t) (by intro _; with_unfolding_all rfl) (by intro _ _; with_unfolding_all rfl) ?_
      repeat walk_at "e"
      refine ⟨1, _, rfl, rfl, rfl, ?_⟩
      repeat walk_at "e"
      refine WpE_call _ (G_plus t) (C_plus t) ?_
      repeat walk_at "e"
      have htB := ht.mono (N' := 3 + ts.length) (C' := U) (by (first | lia | omega)) (Int.le_refl _)
      obtain ⟨bd1, bd2⟩ := plus_bd (f := -1) (F := 1) hFb htB (by (first | lia | omega)) (by decide) (by decide)
      refine WpC.room (k := n + 3) (S_plus t (one := found) (other := tot) (f := -1) (by decide) hFb.nd htB.nd (by have := hFb.len; have := ht.len; (first | lia | omega)) bd1 bd2 fun s hs _ => ?_) (by (first | lia | omega))
      have hsB := hFb.plus (F := 1) htB (by (first | lia | omega)) (by decide) hs
      have hse := ev_plus hFb htB hs
      repeat walk_at "e"
      refine WpC.room (k := n + 5) (S_require_row t o (k := .eq) (v := s.sv) (by rw [Sm.sv_sm]; exact hsB.ok (by decide) (by (first | lia | omega))) (by (first | lia | omega)) ?_) (by (first | lia | omega))
      rw [Sm.sv_sm]
      refine ⟨trivial, ?_⟩
      repeat refine WpS_nil ?_
      refine hS _ _ ⟨ts, _, (Fin_row hR FR.T (by (first | lia | omega)) hsB (by decide) .eq).congr fun row hr => ?_, by rw [Drow_v], h1, h2, h3, h10, rfl⟩
      rw [hse, FR.sem row hr, ev_low ht (hR row hr).len, hev row hr, show great * W row + -1 * (great * W row) = 0 by (first | lia | omega)]
      rw [q0]; rfl
    refine ifF (decide_eq_false q0) ?_
    refine WpS_cons (WpX_if ?_)
    repeat walk_at "e"
    refine ⟨by rfl, by rfl, ?_⟩
    rw [eqV_int]
    by_cases q1 : last = 1
    · refine ifT (decide_eq_true q1) ?_
      refine WpS_cons (WpX_expr ?_ (by intro env h; simp only [interactive, h]; decide +kernel) (by intro _; with_unfolding_all rfl))
      refine WpE_m (M_require_row t) (by intro _; with_unfolding_all rfl) (by intro _ _; with_unfolding_all rfl) ?_
      repeat walk_at "e"
      refine ⟨1, _, rfl, rfl, rfl, ?_⟩
      repeat walk_at "e"
      refine WpE_call _ (G_plus t) (C_plus t) ?_
      repeat walk_at "e"
      have htB := ht.mono (N' := 3 + ts.length) (C' := U) (by (first | lia | omega)) (Int.le_refl _)
      obtain ⟨bd1, bd2⟩ := plus_bd (f := -1) (F := 1) hFb htB (by (first | lia | omega)) (by decide) (by decide)
      refine WpC.room (k := n + 3) (S_plus t (one := found) (other := tot) (f := -1) (by decide) hFb.nd htB.nd (by have := hFb.len; have := ht.len; (first | lia | omega)) bd1 bd2 fun s hs _ => ?_) (by (first | lia | omega))
      have hsB := hFb.plus (F := 1) htB (by (first | lia | omega)) (by decide) hs
      have hse := ev_plus hFb htB hs
      repeat walk_at "e"
      refine WpC.room (k := n + 5) (S_require_row t o (k := .ne) (v := s.sv) (by rw [Sm.sv_sm]; exact hsB.ok (by decide) (by (first | lia | omega))) (by (first | lia | omega)) ?_) (by (first | lia | omega))
      rw [Sm.sv_sm]
      refine ⟨trivial, ?_⟩
      repeat refine WpS_nil ?_
      refine hS _ _ ⟨ts, _, (Fin_row hR FR.T (by (first | lia | omega)) hsB (by decide) .ne).congr fun row hr => ?_, by rw [Drow_v], h1, h2, h3, h10, rfl⟩
      rw [hse, FR.sem row hr, ev_low ht (hR row hr).len, hev row hr, show great * W row + -1 * (great * W row) = 0 by (first | lia | omega)]
      rw [q1]; rfl
    refine ifF (decide_eq_false q1) ?_
    refine WpS_cons (WpX_if ?_)
    repeat walk_at "e"
    refine ⟨by rfl, by rfl, ?_⟩
    rw [eqV_int]
    by_cases q2 : last = 2
    · refine ifT (decide_eq_true q2) ?_
      refine WpS_cons (WpX_expr ?_ (by intro env h; simp only [interactive, h]; decide +kernel) (by intro _; with_unfolding_all rfl))
      refine WpE_m (M_require_row t) (by intro _; with_unfolding_all rfl) (by intro _ _; with_unfolding_all rfl) ?_
      repeat walk_at "e"
      refine ⟨1, _, rfl, rfl, rfl, ?_⟩
      repeat walk_at "e"
      refine WpE_call _ (G_plus t) (C_plus t) ?_
      repeat walk_at "e"
      refine ⟨.inr (intBits_le_64 (by (first | lia | omega)) (by (first | lia | omega))), ?_⟩
      show WpEs _ _ _ _ _ _ _
      repeat walk_at "e"
      have htB := SmB.int (N := 3 + ts.length) (goal * great) hcU
      obtain ⟨bd1, bd2⟩ := plus_bd (f := -1) (F := 1) hFb htB (by (first | lia | omega)) (by decide) (by decide)
      refine WpC.room (k := n + 3) (S_plus t (one := found) (other := .int (goal * great)) (f := -1) (by decide) hFb.nd htB.nd (by have := hFb.len; show _ + 0 < _; (first | lia | omega)) bd1 bd2 fun s hs _ => ?_) (by (first | lia | omega))
      have hsB := hFb.plus (F := 1) htB (by (first | lia | omega)) (by decide) hs
      have hse := ev_plus hFb htB hs
      repeat walk_at "e"
      refine WpC.room (k := n + 5) (S_require_row t o (k := .le) (v := s.sv) (by rw [Sm.sv_sm]; exact hsB.ok (by decide) (by (first | lia | omega))) (by (first | lia | omega)) ?_) (by (first | lia | omega))
      rw [Sm.sv_sm]
      refine ⟨trivial, ?_⟩
      repeat refine WpS_nil ?_
      refine hS _ _ ⟨ts, _, (Fin_row hR FR.T (by (first | lia | omega)) hsB (by decide) .le).congr fun row hr => ?_, by rw [Drow_v], h1, h2, h3, h10, rfl⟩
      rw [hse, FR.sem row hr, ev_int, show great * W row + -1 * (goal * great) = great * W row - goal * great by (first | lia | omega)]
      rw [q2, relB_le hg.1]; rfl
    · refine ifF (decide_eq_false q2) ?_
      refine WpS_cons (WpX_expr ?_ (by intro env h; simp only [interactive, h]; decide +kernel) (by intro _; with_unfolding_all rfl))
      refine WpE_m (M_require_some t) (by intro _; with_unfolding_all rfl) (by intro _ _; with_unfolding_all rfl) ?_
      repeat walk_at "e"
      refine ⟨1, _, rfl, rfl, rfl, ?_⟩
      walk_at "e"
      refine WpE_list ?_ (by rfl) (by intro _ _; with_unfolding_all rfl)
      walk_at "e"
      refine WpE_call _ (G_contrary t) (C_contrary t) ?_
      walk_at "e"
      refine WpE_m (M_row_truth t) (by intro _; with_unfolding_all rfl) (by intro _ _; with_unfolding_all rfl) ?_
      repeat walk_at "e"
      refine ⟨1, _, rfl, rfl, rfl, ?_⟩
      repeat walk_at "e"
      refine WpE_call _ (G_plus t) (C_plus t) ?_
      repeat walk_at "e"
      refine ⟨.inr (intBits_le_64 (by (first | lia | omega)) (by (first | lia | omega))), ?_⟩
      show WpEs _ _ _ _ _ _ _
      repeat walk_at "e"
      have htB := SmB.int (N := 3 + ts.length) (goal * great) hcU
      obtain ⟨bd1, bd2⟩ := plus_bd (f := -1) (F := 1) hFb htB (by (first | lia | omega)) (by decide) (by decide)
      refine WpC.room (k := n + 3) (S_plus t (one := found) (other := .int (goal * great)) (f := -1) (by decide) hFb.nd htB.nd (by have := hFb.len; show _ + 0 < _; (first | lia | omega)) bd1 bd2 fun s hs _ => ?_) (by (first | lia | omega))
      have hsB := hFb.plus (F := 1) htB (by (first | lia | omega)) (by decide) hs
      have hse := ev_plus hFb htB hs
      have hso := hsB.ok (ts := ts) (by decide) (by (first | lia | omega))
      repeat walk_at "e"
      refine WpC.room (k := n + 6) (S_row_truth t o (k := .eq) (v := s.sv) (by rw [Sm.sv_sm]; exact hso) (by (first | lia | omega)) ?_) (by (first | lia | omega))
      rw [Sm.sv_sm]
      have TS := rtF_sem (b := b) FR.T hso (by have := hsB.len; (first | lia | omega)) (k := .eq)
      have hbit := rtF_bit (b := b) (ts := ts) (k := .eq) (s := s)
      generalize rtF b ts .eq s = r at TS hbit
      obtain ⟨tr, ts'⟩ := r
      obtain ⟨us, hus, hul⟩ := TS.app
      simp only at hus hbit ⊢
      have hl' : ts'.length ≤ 41 := by rw [hus, List.length_append]; (first | lia | omega)
      repeat walk_at "e"
      refine WpC.room (k := n + 1) (S_contrary t ?_) (by (first | lia | omega))
      repeat walk_at "e"
      refine WpC.room (k := n + 5) (S_require_some t (tr := tr.no) (by (first | lia | omega)) ?_) (by (first | lia | omega))
      refine ⟨trivial, ?_⟩
      repeat refine WpS_nil ?_
      refine hS _ _ ⟨ts', _, Fin_tr hR TS.ok (by show ts'.length ≤ 100; (first | lia | omega)) (trIn_no TS.vars) (bitOk_no hbit) fun row hr => ?_, by rw [Dtr_v], h1, h2, h3, h10, rfl⟩
      have e4 := TS.sem row (hR row hr)
      simp only at e4
      have e5 : ev s (atP (ext row ts')) = ev s (atP (ext row ts)) := ev_congr fun p hp => by
        have := hsB.x p hp
        rw [hus]
        exact atP_ext this.1 (by rw [(hR row hr).len]; exact this.2)
      rw [trH_no, e4, e5, hse, FR.sem row hr, ev_int, show great * W row + -1 * (goal * great) = great * W row - goal * great by (first | lia | omega), relB_eq hg.1]
      have q3 : last = 3 := by (first | lia | omega)
      rw [q3]; rfl
  · rintro m σ ⟨ts', D, FN, rfl, h1, h2, h3, h10, h11⟩
    exact T17 t FN hΨ ⟨j1, j2⟩ (fun p hp => by
      obtain ⟨a1, a2, a3, a4, _⟩ := hw p hp
      exact ⟨a1, a2, a3, by rw [a4]⟩) h1 h2 h3 h10 h11
end

/-! part C17 -/
noncomputable def oAt (o0 o1 o2 : Int) : Nat → Int
  | 0 => o0
  | 1 => o1
  | _ => o2
noncomputable def psum (o0 o1 o2 : Int) (w : Int → Int) : Nat → Int
  | 0 => 0
  | p + 1 => psum o0 o1 o2 w p + oAt o0 o1 o2 p * w p
noncomputable def psOf (low hole : Int) : List Int := [low, low + 1, low + 2 + hole]
noncomputable def qsOf (base : Int) : List Int := [base, base + 1]
noncomputable def wOf (o0 o1 o2 added p q r : Int) : Int := o0 * p + o1 * q + o2 * r + added
noncomputable def wl1 (o0 o1 o2 added p q : Int) (rs : List Int) : List (List Int × Int) := rs.map fun r => ([p, q, r], wOf o0 o1 o2 added p q r)
noncomputable def wl2 (o0 o1 o2 added p : Int) (qs : List Int) : List (List Int × Int) := qs.flatMap fun q => wl1 o0 o1 o2 added p q [0, 1]
noncomputable def wl3 (o0 o1 o2 added base : Int) (ps : List Int) : List (List Int × Int) := ps.flatMap fun p => wl2 o0 o1 o2 added p (qsOf base)
theorem wl1_snoc (o0 o1 o2 added p q : Int) (a : List Int) (x : Int) : wl1 o0 o1 o2 added p q (a ++ [x]) = wl1 o0 o1 o2 added p q a ++ [([p, q, x], wOf o0 o1 o2 added p q x)] := by unfold wl1; simp
theorem wl2_snoc (o0 o1 o2 added p : Int) (a : List Int) (x : Int) : wl2 o0 o1 o2 added p (a ++ [x]) = wl2 o0 o1 o2 added p a ++ wl1 o0 o1 o2 added p x [0, 1] := by unfold wl2; simp
theorem wl3_snoc (o0 o1 o2 added base : Int) (a : List Int) (x : Int) : wl3 o0 o1 o2 added base (a ++ [x]) = wl3 o0 o1 o2 added base a ++ wl2 o0 o1 o2 added x (qsOf base) := by unfold wl3; simp
theorem wl2_len (o0 o1 o2 added p : Int) : ∀ qs, (wl2 o0 o1 o2 added p qs).length = 2 * qs.length
  | [] => rfl
  | q :: qs => by
    have ih := wl2_len o0 o1 o2 added p qs
    unfold wl2 at ih ⊢
    rw [List.flatMap_cons, List.length_append, ih, List.length_cons]
    unfold wl1; simp; (first | lia | omega)
theorem wl3_len (o0 o1 o2 added base : Int) : ∀ ps, (wl3 o0 o1 o2 added base ps).length = 4 * ps.length
  | [] => rfl
  | p :: ps => by
    have ih := wl3_len o0 o1 o2 added base ps
    unfold wl3 at ih ⊢
    rw [List.flatMap_cons, List.length_append, ih, List.length_cons, wl2_len]
    simp [qsOf]; (first | lia | omega)
structure LawIn (low hole base o0 o1 o2 added : Int) : Prop where
  low : -1 ≤ low ∧ low ≤ 1
  hole : 0 ≤ hole ∧ hole ≤ 1
  base : -1 ≤ base ∧ base ≤ 0
  o0 : -2 ≤ o0 ∧ o0 ≤ 2
  o1 : -2 ≤ o1 ∧ o1 ≤ 2
  o2 : -1 ≤ o2 ∧ o2 ≤ 1
  added : -2 ≤ added ∧ added ≤ 2
section
variable {low hole base o0 o1 o2 added : Int} (L : LawIn low hole base o0 o1 o2 added)
theorem base_ok (L : LawIn low hole base o0 o1 o2 added) : (baseOf low hole base).Ok := by
  have := L.low; have := L.base
  refine ⟨?_, by simp [baseOf], by simp [baseOf], ?_, ?_, ?_⟩
  · show d0Of low hole ≠ []
    unfold d0Of; split <;> simp
  · intro p hp
    have hp : p ∈ d0Of low hole := hp
    unfold d0Of at hp
    split at hp
    · rw [List.mem_singleton] at hp; subst hp; simp only; (first | lia | omega)
    · simp at hp; rcases hp with rfl | rfl <;> simp only <;> (first | lia | omega)
  · intro p hp
    have hp : p ∈ [(base, base + 1)] := hp
    rw [List.mem_singleton] at hp; subst hp; simp only; (first | lia | omega)
  · intro p hp
    have hp : p ∈ [((0 : Int), (1 : Int))] := hp
    rw [List.mem_singleton] at hp; subst hp; simp only; (first | lia | omega)
noncomputable def RowIn (low hole base : Int) (row : List Int) : Prop := ∃ p ∈ psOf low hole, ∃ q ∈ qsOf base, ∃ r ∈ ([0, 1] : List Int), row = [p, q, r]
theorem row_good (L : LawIn low hole base o0 o1 o2 added) {row : List Int} (h : RowIn low hole base row) : RowGood (baseOf low hole base) row ∧ Small row := by
  have := L.low; have := L.base; have := L.hole
  obtain ⟨p, hp, q, hq, r, hr, rfl⟩ := h
  unfold psOf at hp; unfold qsOf at hq
  simp at hp hq hr
  refine ⟨⟨rfl, fun x hx => ?_⟩, ⟨fun v hv => ?_⟩⟩
  · match x, hx with
    | 0, _ =>
      show lo (d0Of low hole) ≤ p ∧ p ≤ hi (d0Of low hole)
      unfold d0Of
      split
      · show low ≤ p ∧ p ≤ low + 2; (first | lia | omega)
      · show low ≤ p ∧ p ≤ low + 3; (first | lia | omega)
    | 1, _ => show base ≤ q ∧ q ≤ base + 1; (first | lia | omega)
    | 2, _ => show 0 ≤ r ∧ r ≤ 1; (first | lia | omega)
  · simp at hv; (first | lia | omega)
noncomputable def wRow (o0 o1 o2 added : Int) (row : List Int) : Int := o0 * atP row 0 + o1 * atP row 1 + o2 * atP row 2 + added
theorem w_bd (L : LawIn low hole base o0 o1 o2 added) {p q r : Int} (hp : p ∈ psOf low hole) (hq : q ∈ qsOf base) (hr : r ∈ ([0, 1] : List Int)) : -13 ≤ wOf o0 o1 o2 added p q r ∧ wOf o0 o1 o2 added p q r ≤ 13 := by
  have := L.low; have := L.base; have := L.hole; have := L.added
  unfold psOf at hp; unfold qsOf at hq
  simp at hp hq hr
  have h1 := mulb (F := 2) (D := 4) (f := o0) (y := p) L.o0 (by decide) (by (first | lia | omega))
  have h2 := mulb (F := 2) (D := 1) (f := o1) (y := q) L.o1 (by decide) (by (first | lia | omega))
  have h3 := mulb (F := 1) (D := 1) (f := o2) (y := r) L.o2 (by decide) (by (first | lia | omega))
  unfold wOf
  (first | lia | omega)
theorem wl3_mem {x : List Int × Int} : x ∈ wl3 o0 o1 o2 added base (psOf low hole) ↔ ∃ p ∈ psOf low hole, ∃ q ∈ qsOf base, ∃ r ∈ ([0, 1] : List Int), x = ([p, q, r], wOf o0 o1 o2 added p q r) := by
  unfold wl3 wl2 wl1
  simp only [List.mem_flatMap, List.mem_map]
  constructor
  · rintro ⟨p, hp, q, hq, r, hr, e⟩
    exact ⟨p, hp, q, hq, r, hr, e.symm⟩
  · rintro ⟨p, hp, q, hq, r, hr, e⟩
    exact ⟨p, hp, q, hq, r, hr, e.symm⟩
end
theorem oAt_bd {low hole base o0 o1 o2 added : Int} (L : LawIn low hole base o0 o1 o2 added) {p : Nat} (h : p < 3) : -2 ≤ oAt o0 o1 o2 p ∧ oAt o0 o1 o2 p ≤ 2 := by
  have := L.o0; have := L.o1; have := L.o2
  have : p = 0 ∨ p = 1 ∨ p = 2 := by (first | lia | omega)
  rcases this with rfl | rfl | rfl
  · exact L.o0
  · exact L.o1
  · show -2 ≤ o2 ∧ o2 ≤ 2; (first | lia | omega)
theorem oAt_idx (o0 o1 o2 : Int) {p : Nat} (h : p < 3) : pyIdx [V.int o0, V.int o1, V.int o2] (p : Int) = some (.int (oAt o0 o1 o2 p)) := by
  have : p = 0 ∨ p = 1 ∨ p = 2 := by (first | lia | omega)
  rcases this with rfl | rfl | rfl <;> rfl
section
variable {c : Cx} {n : Nat}
structure EnvW (m : Loc) (great o0 o1 o2 added base : Int) (tot : Sv) : Prop where
  f : m "feed" = some (.ref 0)
  g : m "gatherer" = some (.inst 269 1)
  l : m "late" = some (.ref 6)
  gr : m "great" = some (.int great)
  t : m "total" = some tot.v
  w : m "worths" = some (.ref 7)
  o : m "often" = some (.lst [.int o0, .int o1, .int o2])
  a : m "added" = some (.int added)
  b : m "base" = some (.int base)
theorem EnvW.p {m : Loc} {great o0 o1 o2 added base : Int} {tot : Sv} (h : EnvW m great o0 o1 o2 added base tot) (v : V) : EnvW (upd m "p" v) great o0 o1 o2 added base tot := ⟨h.f, h.g, h.l, h.gr, h.t, h.w, h.o, h.a, h.b⟩
theorem EnvW.q {m : Loc} {great o0 o1 o2 added base : Int} {tot : Sv} (h : EnvW m great o0 o1 o2 added base tot) (v : V) : EnvW (upd m "q" v) great o0 o1 o2 added base tot := ⟨h.f, h.g, h.l, h.gr, h.t, h.w, h.o, h.a, h.b⟩
theorem EnvW.r {m : Loc} {great o0 o1 o2 added base : Int} {tot : Sv} (h : EnvW m great o0 o1 o2 added base tot) (v : V) : EnvW (upd m "r" v) great o0 o1 o2 added base tot := ⟨h.f, h.g, h.l, h.gr, h.t, h.w, h.o, h.a, h.b⟩
set_option maxHeartbeats 16000000 in
theorem T8 (t : Txt c) {cs : List Int} (hcs : cs.length < 1000) {low hole base great o0 o1 o2 added : Int} (L : LawIn low hole base o0 o1 o2 added) (hg : 1 ≤ great ∧ great ≤ 10 ^ 18)
    {m : Loc} {Ψ : V → List O → Prop} (hΨ : ∀ σ', Ψ (.bool true) σ') (h0 : m "feed" = some (.ref 0)) (h1 : m "gatherer" = some (.inst 269 1)) (h2 : m "late" = some (.ref 6)) (h3 : m "low" = some (.int low)) (h4 : m "hole" = some (.int hole)) (h5 : m "base" = some (.int base))
    (h6 : m "great" = some (.int great)) (h7 : m "often" = some (.lst [.int o0, .int o1, .int o2])) (h8 : m "added" = some (.int added)) :
    WpS c (n + 11) fd_law.1.scope m (St (fdO cs 8) (varsV (baseOf low hole base) 3) [] [] [.idict []]) (lawB 8) (lawP Ψ) := by
  unfold lawB bd_law lawP
  dsimp only
  have bl := L.low; have bb := L.base; have bh := L.hole; have ba := L.added; have b0 := L.o0; have b1 := L.o1; have b2 := L.o2
  refine WpS_cons ?_
  walk_at "s"
  repeat walk_at "e"
  refine ⟨.inl (bits_small (by (first | lia | omega))), ?_⟩
  have hag := mulb (F := 2) (D := 10 ^ 18) (f := added) (y := great) ba (by decide) (by (first | lia | omega))
  refine WpS_stage (fun m' σ' => ∃ tot : Sv, σ' = St (fdO cs 8) (varsV (baseOf low hole base) 3) [] [] [.idict []] ∧ SmB 3 U tot.sm ∧ (∀ w, ev tot.sm w = great * (added + psum o0 o1 o2 w 3)) ∧ m' "feed" = some (.ref 0) ∧ m' "gatherer" = some (.inst 269 1) ∧ m' "late" = some (.ref 6) ∧ m' "low" = some (.int low) ∧ m' "hole" = some (.int hole) ∧ m' "base" = some (.int base) ∧
    m' "great" = some (.int great) ∧ m' "often" = some (.lst [.int o0, .int o1, .int o2]) ∧ m' "added" = some (.int added) ∧ m' "total" = some tot.v) (fun Ψ1 hS => WpX_for ?_) ?_
  · refine WpE_call _ (B_range t) trivial ?_
    repeat walk_at "e"
    refine WpC_range1 ?_
    refine ⟨⟨by (first | lia | omega), by (first | lia | omega), by (first | lia | omega), by (first | lia | omega)⟩, ?_⟩
    refine forGo_inv (fun vs m' σ' => ∃ (p : Nat) (tot : Sv), p ≤ 3 ∧ vs = rangeV p 3 ∧ σ' = St (fdO cs 8) (varsV (baseOf low hole base) 3) [] [] [.idict []] ∧ SmB 3 ((p + 1 : Nat) * (2 * 10 ^ 18)) tot.sm ∧ (∀ w, ev tot.sm w = great * (added + psum o0 o1 o2 w p)) ∧ m' "feed" = some (.ref 0) ∧ m' "gatherer" = some (.inst 269 1) ∧ m' "late" = some (.ref 6) ∧ m' "low" = some (.int low) ∧ m' "hole" = some (.int hole) ∧ m' "base" = some (.int base) ∧
      m' "great" = some (.int great) ∧ m' "often" = some (.lst [.int o0, .int o1, .int o2]) ∧ m' "added" = some (.int added) ∧ m' "total" = some tot.v) ?_ ?_ _ _ _ ⟨0, .int (added * great), by (first | lia | omega), rfl, rfl, SmB.int _ (by (first | lia | omega)), fun w => by rw [ev_int, Int.mul_comm]; show great * added = great * (added + 0); rw [Int.add_zero], h0, h1, h2, h3, h4, h5, h6, h7, h8, rfl⟩
    · rintro m σ' ⟨p, tot, hp, hvs, rfl, hB, he, h0, h1, h2, h3, h4, h5, h6, h7, h8, h9⟩
      have : p = 3 := by
        by_cases q : p < 3
        · rw [rangeV_cons (by (first | lia | omega))] at hvs; cases hvs
        · (first | lia | omega)
      subst this
      exact ⟨trivial, hS _ _ ⟨tot, rfl, hB.mono (Nat.le_refl _) (by decide), he, h0, h1, h2, h3, h4, h5, h6, h7, h8, h9⟩⟩
    · rintro v vs m σ' ⟨p, tot, hp, hvs, rfl, hB, he, h0, h1, h2, h3, h4, h5, h6, h7, h8, h9⟩
      have hlt : p < 3 := by
        by_cases q : p < 3
        · exact q
        · rw [rangeV_nil (by (first | lia | omega))] at hvs; cases hvs
      rw [rangeV_cons (by (first | lia | omega))] at hvs
      simp only [List.cons.injEq] at hvs
      obtain ⟨rfl, rfl⟩ := hvs
      refine ⟨trivial, _, asg_name (.inl (by decide +kernel)), ?_⟩
      refine gen3 fun Ψ hΨ => ?_
      refine WpS_cons ?_
      walk_at "s"
      refine WpE_call _ (G_plus t) (C_plus t) ?_
      repeat walk_at "e"
      have hob := oAt_bd L hlt
      have hidx : pyIdx [V.int o0, V.int o1, V.int o2] (p : Int) = some (.int (oAt o0 o1 o2 p)) := oAt_idx o0 o1 o2 hlt
      have hog := mulb (F := 2) (D := 10 ^ 18) (f := oAt o0 o1 o2 p) (y := great) hob (by decide) (by (first | lia | omega))
      have hbit : SmB 3 1 (Sv.tr (.bit (p : Int) true)).sm := SmB.tr ⟨by (first | lia | omega), by (first | lia | omega)⟩
      obtain ⟨bd1, bd2⟩ := plus_bd (f := oAt o0 o1 o2 p * great) (F := 2 * 10 ^ 18) hB hbit hog (by decide) (by
        have : ((p + 1 : Nat) : Int) ≤ 3 := by (first | lia | omega)
        have := Int.mul_le_mul_of_nonneg_right this (show (0 : Int) ≤ 2 * 10 ^ 18 by decide)
        (first | lia | omega))
      by_cases hp2 : p < 2
      · refine ifT (decide_eq_true (by (first | lia | omega))) ?_
        repeat walk_at "e"
        refine ⟨⟨by (first | lia | omega), by (first | lia | omega)⟩, .int (oAt o0 o1 o2 p), hidx, ?_⟩
        repeat walk_at "e"
        refine ⟨.inl (bits_small (by (first | lia | omega))), ?_⟩
        repeat walk_at "e"
        refine WpC.room (k := n + 3) (S_plus t (one := tot) (other := .sum ⟨[((p : Int), 1)], 0⟩) (f := oAt o0 o1 o2 p * great) (intBits_le_64 (by (first | lia | omega)) (by (first | lia | omega))) hB.nd hbit.nd (by have := hB.len; show _ + 1 < _; (first | lia | omega)) bd1 bd2 fun s hs _ => ?_) (by (first | lia | omega))
        refine WpS_nil ?_
        refine hΨ .next _ _ ?_
        refine ⟨p + 1, s.sv, by (first | lia | omega), rfl, rfl, ?_, fun w => ?_, h0, h1, h2, h3, h4, h5, h6, h7, h8, rfl⟩
        · rw [Sm.sv_sm]
          exact (hB.plus hbit hog (by decide) hs).mono (Nat.le_refl _) (by
            have : ((p + 1 + 1 : Nat) : Int) = (p + 1 : Nat) + 1 := by (first | lia | omega)
            rw [this]; (first | lia | omega))
        · rw [Sm.sv_sm, ev_plus hB hbit hs, he]
          have e1 : ev (Sv.tr (.bit (p : Int) true)).sm w = w p := by
            show 0 + ([((p : Int), (1 : Int))].map fun q => q.2 * w q.1).sum = w p
            simp
          rw [e1]
          show great * (added + psum o0 o1 o2 w p) + oAt o0 o1 o2 p * great * w p = great * (added + (psum o0 o1 o2 w p + oAt o0 o1 o2 p * w p))
          rw [← Int.add_assoc, Int.mul_add great (added + psum o0 o1 o2 w p), Int.mul_comm (oAt o0 o1 o2 p) great, Int.mul_assoc]
      · refine ifF (decide_eq_false (by (first | lia | omega))) ?_
        have hp2' : p = 2 := by (first | lia | omega)
        repeat walk_at "e"
        subst hp2'
        refine ⟨⟨by (first | lia | omega), by (first | lia | omega)⟩, .int (oAt o0 o1 o2 2), hidx, ?_⟩
        repeat walk_at "e"
        refine ⟨.inl (bits_small (by (first | lia | omega))), ?_⟩
        repeat walk_at "e"
        refine WpC.room (k := n + 3) (S_plus t (one := tot) (other := .tr (.bit 2 true)) (f := oAt o0 o1 o2 2 * great) (intBits_le_64 (by (first | lia | omega)) (by (first | lia | omega))) hB.nd hbit.nd (by have := hB.len; show _ + 1 < _; (first | lia | omega)) bd1 bd2 fun s hs _ => ?_) (by (first | lia | omega))
        refine WpS_nil ?_
        refine hΨ .next _ _ ?_
        refine ⟨2 + 1, s.sv, by (first | lia | omega), rfl, rfl, ?_, fun w => ?_, h0, h1, h2, h3, h4, h5, h6, h7, h8, rfl⟩
        · rw [Sm.sv_sm]
          exact (hB.plus hbit hog (by decide) hs).mono (Nat.le_refl _) (by
            have : ((2 + 1 + 1 : Nat) : Int) = (2 + 1 : Nat) + 1 := by (first | lia | omega)
            rw [this]; (first | lia | omega))
        · rw [Sm.sv_sm, ev_plus hB hbit hs, he]
          have e1 : ev (Sv.tr (.bit ((2 : Nat) : Int) true)).sm w = w (2 : Nat) := by
            show 0 + ([(((2 : Nat) : Int), (1 : Int))].map fun q => q.2 * w q.1).sum = w (2 : Nat)
            simp
          rw [e1]
          show great * (added + psum o0 o1 o2 w (2 : Nat)) + oAt o0 o1 o2 2 * great * w (2 : Nat) = great * (added + (psum o0 o1 o2 w (2 : Nat) + oAt o0 o1 o2 2 * w (2 : Nat)))
          rw [← Int.add_assoc, Int.mul_add great (added + psum o0 o1 o2 w (2 : Nat)), Int.mul_comm (oAt o0 o1 o2 2) great, Int.mul_assoc]
  rintro m σ ⟨tot, rfl, hB, he, h0, h1, h2, h3, h4, h5, h6, h7, h8, h9⟩
  refine WpS_cons ?_
  walk_at "s"
  refine WpE_listT ?_ (by rfl) (by intro _ _; with_unfolding_all rfl)
  repeat walk_at "e"
  refine WpS_stage (fun m' σ' => σ' = St (fdO cs 8) (varsV (baseOf low hole base) 3) [] [] [.idict [], .list ((wl3 o0 o1 o2 added base (psOf low hole)).map wV)] ∧ EnvW m' great o0 o1 o2 added base tot) (fun Ψ1 hS => WpX_for ?_) ?_
  · repeat walk_at "e"
    show WpEs _ _ _ _ _ _ _
    repeat walk_at "e"
    show WpE _ _ _ _ _ _ _
    repeat walk_at "e"
    show WpEs _ _ _ _ _ _ _
    repeat walk_at "e"
    show ForGo _ _ _ _ _ _ _ ((psOf low hole).map V.int) _ _
    refine forGo_inv (fun vs m' σ' => ∃ done rest : List Int, done ++ rest = psOf low hole ∧ vs = rest.map V.int ∧ σ' = St (fdO cs 8) (varsV (baseOf low hole base) 3) [] [] [.idict [], .list ((wl3 o0 o1 o2 added base done).map wV)] ∧ EnvW m' great o0 o1 o2 added base tot) ?_ ?_ _ _ _
      ⟨[], psOf low hole, rfl, rfl, rfl, ⟨h0, h1, h2, h6, h9, rfl, h7, h8, h5⟩⟩
    · rintro m σ' ⟨done, rest, hd, hvs, rfl, E⟩
      have : rest = [] := by simpa using hvs.symm
      subst this
      rw [List.append_nil] at hd
      subst hd
      exact ⟨trivial, hS _ _ ⟨rfl, E⟩⟩
    · rintro v vs m σ' ⟨done, rest, hd, hvs, rfl, E⟩
      obtain ⟨p, rest, rfl⟩ : ∃ y ys', rest = y :: ys' := by cases rest with
        | nil => simp at hvs
        | cons y ys' => exact ⟨y, ys', rfl⟩
      simp only [List.map_cons, List.cons.injEq] at hvs
      obtain ⟨rfl, rfl⟩ := hvs
      have hpm : p ∈ psOf low hole := by rw [← hd]; simp
      have hdl : done.length ≤ 3 := by have := congrArg List.length hd; simp [psOf] at this; (first | lia | omega)
      have hpb : -100 ≤ p ∧ p ≤ 100 := by unfold psOf at hpm; simp at hpm; (first | lia | omega)
      refine ⟨trivial, _, asg_name (.inl (by decide +kernel)), ?_⟩
      refine gen3 fun Ψ hΨ => ?_
      have E := E.p (.int p)
      have hpv : upd m "p" (.int p) "p" = some (.int p) := upd_eq
      generalize upd m "p" (.int p) = m at E hpv
      refine WpS_cons (WpX_for ?_)
      have hEb := E.b
      repeat walk_at "e"
      show WpEs _ _ _ _ _ _ _
      repeat walk_at "e"
      show ForGo _ _ _ _ _ _ _ ((qsOf base).map V.int) _ _
      refine forGo_inv (fun vs m' σ' => ∃ qd qr : List Int, qd ++ qr = qsOf base ∧ vs = qr.map V.int ∧ σ' = St (fdO cs 8) (varsV (baseOf low hole base) 3) [] [] [.idict [], .list ((wl3 o0 o1 o2 added base done ++ wl2 o0 o1 o2 added p qd).map wV)] ∧ EnvW m' great o0 o1 o2 added base tot ∧ m' "p" = some (.int p)) ?_ ?_ _ _ _
        ⟨[], qsOf base, rfl, rfl, by show _ = St _ _ _ _ [_, .list ((_ ++ []).map wV)]; rw [List.append_nil], E, hpv⟩
      · rintro m σ' ⟨qd, qr, hqd, hvs, rfl, E, hpv⟩
        have : qr = [] := by simpa using hvs.symm
        subst this
        rw [List.append_nil] at hqd
        subst hqd
        refine ⟨trivial, WpS_nil ?_⟩
        refine hΨ .next _ _ ?_
        exact ⟨done ++ [p], rest, by rw [List.append_assoc]; exact hd, rfl, by rw [wl3_snoc], E⟩
      · rintro v vs m σ' ⟨qd, qr, hqd, hvs, rfl, E, hpv⟩
        obtain ⟨q, qr, rfl⟩ : ∃ y ys', qr = y :: ys' := by cases qr with
          | nil => simp at hvs
          | cons y ys' => exact ⟨y, ys', rfl⟩
        simp only [List.map_cons, List.cons.injEq] at hvs
        obtain ⟨rfl, rfl⟩ := hvs
        have hqm : q ∈ qsOf base := by rw [← hqd]; simp
        have hqdl : qd.length ≤ 2 := by have := congrArg List.length hqd; simp [qsOf] at this; (first | lia | omega)
        have hqb : -100 ≤ q ∧ q ≤ 100 := by unfold qsOf at hqm; simp at hqm; (first | lia | omega)
        refine ⟨trivial, _, asg_name (.inl (by decide +kernel)), ?_⟩
        refine gen3 fun Ψ2 hΨ2 => ?_
        have E := E.q (.int q)
        have hqv : upd m "q" (.int q) "q" = some (.int q) := upd_eq
        have hpv : upd m "q" (.int q) "p" = some (.int p) := hpv
        generalize upd m "q" (.int q) = m at E hqv hpv
        refine WpS_cons (WpX_for ?_)
        repeat walk_at "e"
        show ForGo _ _ _ _ _ _ _ (([0, 1] : List Int).map V.int) _ _
        refine forGo_inv (fun vs m' σ' => ∃ rd rr : List Int, rd ++ rr = [0, 1] ∧ vs = rr.map V.int ∧ σ' = St (fdO cs 8) (varsV (baseOf low hole base) 3) [] [] [.idict [], .list ((wl3 o0 o1 o2 added base done ++ wl2 o0 o1 o2 added p qd ++ wl1 o0 o1 o2 added p q rd).map wV)] ∧ EnvW m' great o0 o1 o2 added base tot ∧ m' "p" = some (.int p) ∧ m' "q" = some (.int q)) ?_ ?_ _ _ _
          ⟨[], [0, 1], rfl, rfl, by show _ = St _ _ _ _ [_, .list ((_ ++ []).map wV)]; rw [List.append_nil], E, hpv, hqv⟩
        · rintro m σ' ⟨rd, rr, hrd, hvs, rfl, E, hpv, hqv⟩
          have : rr = [] := by simpa using hvs.symm
          subst this
          rw [List.append_nil] at hrd
          subst hrd
          refine ⟨trivial, WpS_nil ?_⟩
          refine hΨ2 .next _ _ ?_
          exact ⟨qd ++ [q], qr, by rw [List.append_assoc]; exact hqd, rfl, by rw [wl2_snoc, List.append_assoc], E, hpv⟩
        · rintro v vs m σ' ⟨rd, rr, hrd, hvs, rfl, E, hpv, hqv⟩
          obtain ⟨r, rr, rfl⟩ : ∃ y ys', rr = y :: ys' := by cases rr with
            | nil => simp at hvs
            | cons y ys' => exact ⟨y, ys', rfl⟩
          simp only [List.map_cons, List.cons.injEq] at hvs
          obtain ⟨rfl, rfl⟩ := hvs
          have hrm : r ∈ ([0, 1] : List Int) := by rw [← hrd]; simp
          refine ⟨trivial, _, asg_name (.inl (by decide +kernel)), ?_⟩
          refine gen3 fun Ψ3 hΨ3 => ?_
          have E := E.r (.int r)
          have hrv : upd m "r" (.int r) "r" = some (.int r) := upd_eq
          have hpv : upd m "r" (.int r) "p" = some (.int p) := hpv
          have hqv : upd m "r" (.int r) "q" = some (.int q) := hqv
          generalize upd m "r" (.int r) = m at E hqv hpv hrv
          have hEw := E.w; have hEo := E.o; have hEa := E.a
          refine WpS_cons (WpX_expr ?_ (by intro env h; simp only [interactive, h]; decide +kernel) (by intro _; with_unfolding_all rfl))
          refine WpE_mB F.plainAttrs_list F.slot_list_append F.type_list_append (by intro _; with_unfolding_all rfl) (by intro _ _; with_unfolding_all rfl) ?_
          repeat walk_at "e"
          refine ⟨7, _, rfl, rfl, rfl, ?_⟩
          repeat walk_at "e"
          refine WpE_list ?_ (by rfl) (by intro _ _; with_unfolding_all rfl)
          repeat walk_at "e"
          refine ⟨by decide, _, rfl, ?_⟩
          repeat walk_at "e"
          refine ⟨.inr (bits_small hpb), ?_⟩
          repeat walk_at "e"
          refine ⟨by decide, _, rfl, ?_⟩
          repeat walk_at "e"
          refine ⟨.inr (bits_small hqb), ?_⟩
          show WpE _ _ _ _ _ _ _
          repeat walk_at "e"
          refine ⟨by decide, _, rfl, ?_⟩
          repeat walk_at "e"
          refine ⟨.inr (bits_small (by simp at hrm; (first | lia | omega))), ?_⟩
          show WpE _ _ _ _ _ _ _
          repeat walk_at "e"
          show WpEs _ _ _ _ _ _ _
          repeat walk_at "e"
          have hrdl : rd.length ≤ 2 := by have := congrArg List.length hrd; simp at this; (first | lia | omega)
          have hlen : ((wl3 o0 o1 o2 added base done ++ wl2 o0 o1 o2 added p qd ++ wl1 o0 o1 o2 added p q rd).map wV).length < 1000000 := by
            rw [List.length_map, List.length_append, List.length_append, wl3_len, wl2_len]
            unfold wl1; rw [List.length_map]; (first | lia | omega)
          refine WpC_append rfl hlen ?_
          refine ⟨trivial, WpS_nil ?_⟩
          refine hΨ3 .next _ _ ?_
          refine ⟨rd ++ [r], rr, by rw [List.append_assoc]; exact hrd, rfl, ?_, E, hpv, hqv⟩
          rw [wl1_snoc, ← List.append_assoc, List.map_append (l₂ := [([p, q, r], wOf o0 o1 o2 added p q r)])]
          rfl
  rintro m σ ⟨rfl, E⟩
  have hR : ∀ row, RowIn low hole base row → RowGood (baseOf low hole base) row := fun row hr => (row_good L hr).1
  refine T12 t (base_ok L) hR hcs hg hB (W := wRow o0 o1 o2 added) (fun row hr => ?_) (by rw [← List.length_pos_iff, wl3_len]; simp [psOf]) (by rw [wl3_len]; simp [psOf]) (fun x hx => ?_) (fun row hr => ?_) hΨ E.f E.g E.l E.w E.gr E.t
  · rw [he]
    congr 1
    obtain ⟨p, hp, q, hq, r, hr, rfl⟩ := hr
    show added + (((0 + o0 * atP [p, q, r] 0) + o1 * atP [p, q, r] 1) + o2 * atP [p, q, r] 2) = wRow o0 o1 o2 added [p, q, r]
    unfold wRow; (first | lia | omega)
  · obtain ⟨p, hp, q, hq, r, hr, rfl⟩ := wl3_mem.mp hx
    have hin : RowIn low hole base [p, q, r] := ⟨p, hp, q, hq, r, hr, rfl⟩
    exact ⟨hin, rfl, (row_good L hin).2, rfl, w_bd L hp hq hr⟩
  · obtain ⟨p, hp, q, hq, r, hr, rfl⟩ := hr
    exact wl3_mem.mpr ⟨p, hp, q, hq, r, hr, rfl⟩
end

/-! part C18 -/
section
variable {c : Cx} {n : Nat}
set_option maxHeartbeats 16000000 in
theorem S_body (t : Txt c) {ns : List Int} {Ψ : V → List O → Prop} (hns : ns.length < 1000) (hpost : ∀ σ', Ψ (.bool true) σ') :
    WpS c (n + 11) fd_law.1.scope (bindV ((["script"] : List Str).zip [.lst (ns.map V.int)]) fun _ => none) [] bd_law.1 (lawP Ψ) := by
  unfold lawP
  unfold bd_law
  dsimp only
  refine WpS_cons (WpX_swap ["feed", "gatherer", "late"] ?_ (by intro env h; cases env; subst h; with_unfolding_all rfl) (by decide +kernel) (by intro env; with_unfolding_all rfl))
  walk_at "e"
  walk_at "e"
  refine WpE_dict2 (by decide +kernel) ?_
  refine WpE_call _ (B_list t) trivial ?_
  walk_at "e"
  refine WpE_takeL (by decide) ?_
  repeat walk_at "e"
  refine ⟨ns, rfl, by (first | lia | omega), ?_⟩
  have hns40 : (ns.take (40 : Int).toNat).length < 1000 := by rw [List.length_take]; (first | lia | omega)
  generalize ns.take (40 : Int).toNat = cs at hns40
  repeat walk_at "e"
  refine WpC_list (by rw [List.length_map]; (first | lia | omega)) ?_
  repeat walk_at "e"
  refine ⟨rfl, ?_⟩
  show WpEs _ _ _ _ [fdO cs 0] _ _
  walk_at "e"
  refine WpE_call _ (G_Gatherer t) (C_Gatherer t) ?_
  repeat walk_at "e"
  refine WpC.room (k := n + 4) (S_Gatherer t ?_) (by (first | lia | omega))
  walk_at "e"
  refine WpE_dict0 0 ?_
  repeat walk_at "e"
  refine ⟨_, rfl, rfl, ?_⟩
  refine WpS_cons (WpX_swap ["low", "hole", "base"] ?_ (by intro env h; cases env; subst h; with_unfolding_all rfl) (by decide +kernel) (by intro env; with_unfolding_all rfl))
  show WpE _ _ _ _ (fdO cs 0 :: _) _ _
  repeat walk_at "e"
  refine WpE_call _ (G_law_next t) (C_law_next t) ?_
  repeat walk_at "e"
  refine WpC.room (k := n + 1) (S_next t (by decide) (by decide) hns40 (by decide) fun low0 l1 l2 => ?_) (by (first | lia | omega))
  repeat walk_at "e"
  show WpEs _ _ _ _ _ _ _
  repeat walk_at "e"
  refine WpE_call _ (G_law_next t) (C_law_next t) ?_
  repeat walk_at "e"
  refine WpC.room (k := n + 1) (S_next t (by decide) (by decide) hns40 (by decide) fun hole e1 e2 => ?_) (by (first | lia | omega))
  repeat walk_at "e"
  refine WpE_call _ (G_law_next t) (C_law_next t) ?_
  repeat walk_at "e"
  refine WpC.room (k := n + 1) (S_next t (by decide) (by decide) hns40 (by decide) fun base0 b1 b2 => ?_) (by (first | lia | omega))
  repeat walk_at "e"
  show WpEs _ _ _ _ _ _ _
  repeat walk_at "e"
  refine ⟨_, rfl, rfl, ?_⟩
  generalize hlow : low0 - 1 = low
  generalize hbase : base0 - 1 = base
  refine WpS_cons ?_
  walk_at "s"
  repeat walk_at "e"
  refine ⟨by decide, by decide +kernel, ?_⟩
  show WpEs _ _ _ _ _ _ _
  repeat walk_at "e"
  refine WpE_call _ (G_law_next t) (C_law_next t) ?_
  repeat walk_at "e"
  refine WpC.room (k := n + 1) (S_next t (by decide) (by decide) hns40 (by decide) fun gr g1 g2 => ?_) (by (first | lia | omega))
  refine ⟨⟨by (first | lia | omega), by (first | lia | omega)⟩, .int (gOf gr), ?_, ?_⟩
  · rcases (show gr = 0 ∨ gr = 1 by (first | lia | omega)) with rfl | rfl
    · rfl
    · unfold gOf; rw [if_neg (by decide)]; rfl
  obtain ⟨hg1, hg2⟩ := gOf_bd gr
  generalize gOf gr = great at hg1 hg2
  refine WpS_stage (fun m' σ' => σ' = St (fdO cs 4) [.tup [.str "x", domV (d0Of low hole)]] [] [] [.idict []] ∧ m' "feed" = some (.ref 0) ∧ m' "gatherer" = some (.inst 269 1) ∧ m' "late" = some (.ref 6) ∧ m' "low" = some (.int low) ∧ m' "hole" = some (.int hole) ∧
    m' "base" = some (.int base) ∧ m' "great" = some (.int great)) (fun Ψ1 hS => WpX_expr ?_ (by intro env h; simp only [interactive, h]; decide +kernel) (by intro _; with_unfolding_all rfl)) ?_
  · refine WpE_m (M_new_var t) (by intro _; with_unfolding_all rfl) (by intro _ _; with_unfolding_all rfl) ?_
    refine WpE_attr (A_flat t) ?_ (by intro _; with_unfolding_all rfl)
    repeat walk_at "e"
    refine ⟨1, _, .inst 80 2, rfl, rfl, rfl, ?_⟩
    refine ⟨2, _, rfl, rfl, rfl, ?_⟩
    repeat walk_at "e"
    refine ⟨by rfl, by rfl, ?_⟩
    rw [eqV_int]
    by_cases h0 : hole = 0
    · refine ifT (decide_eq_true h0) ?_
      repeat walk_at "e"
      show WpEs _ _ _ _ _ _ _
      repeat walk_at "e"
      refine WpC.room (k := n + 1) (S_new_var (fd := fdO cs 4) (vs := []) (ts := []) (md := []) (rest := [.idict []]) t (by simp) ?_) (by (first | lia | omega))
      exact ⟨trivial, hS _ _ ⟨by unfold d0Of; rw [if_pos h0]; rfl, rfl, rfl, rfl, rfl, rfl, rfl, rfl⟩⟩
    · refine ifF (decide_eq_false h0) ?_
      repeat walk_at "e"
      show WpEs _ _ _ _ _ _ _
      repeat walk_at "e"
      show WpEs _ _ _ _ _ _ _
      repeat walk_at "e"
      show WpEs _ _ _ _ _ _ _
      repeat walk_at "e"
      refine WpC.room (k := n + 1) (S_new_var (fd := fdO cs 4) (vs := []) (ts := []) (md := []) (rest := [.idict []]) t (by simp) ?_) (by (first | lia | omega))
      exact ⟨trivial, hS _ _ ⟨by unfold d0Of; rw [if_neg h0]; rfl, rfl, rfl, rfl, rfl, rfl, rfl, rfl⟩⟩
  rintro m σ ⟨rfl, m1, m2, m3, m4, m5, m6, m7⟩
  refine WpS_cons (WpX_expr ?_ (by intro env h; simp only [interactive, h]; decide +kernel) (by intro _; with_unfolding_all rfl))
  refine WpE_m (M_new_var t) (by intro _; with_unfolding_all rfl) (by intro _ _; with_unfolding_all rfl) ?_
  refine WpE_attr (A_flat t) ?_ (by intro _; with_unfolding_all rfl)
  repeat walk_at "e"
  refine ⟨1, _, .inst 80 2, rfl, rfl, rfl, ?_⟩
  refine ⟨2, _, rfl, rfl, rfl, ?_⟩
  repeat walk_at "e"
  show WpEs _ _ _ _ _ _ _
  repeat walk_at "e"
  refine WpC.room (k := n + 1) (S_new_var t (by simp) ?_) (by (first | lia | omega))
  refine ⟨trivial, ?_⟩
  refine WpS_cons (WpX_expr ?_ (by intro env h; simp only [interactive, h]; decide +kernel) (by intro _; with_unfolding_all rfl))
  refine WpE_m (M_new_var t) (by intro _; with_unfolding_all rfl) (by intro _ _; with_unfolding_all rfl) ?_
  refine WpE_attr (A_flat t) ?_ (by intro _; with_unfolding_all rfl)
  repeat walk_at "e"
  refine ⟨1, _, .inst 80 2, rfl, rfl, rfl, ?_⟩
  refine ⟨2, _, rfl, rfl, rfl, ?_⟩
  repeat walk_at "e"
  refine WpC.room (k := n + 1) (S_new_var t (by simp) ?_) (by (first | lia | omega))
  refine ⟨trivial, ?_⟩
  show WpS _ _ _ _ (St (fdO cs 4) (varsV (baseOf low hole base) 3) [] [] [.idict []]) _ _
  refine WpS_cons ?_
  walk_at "s"
  refine WpE_list ?_ (by rfl) (by intro _ _; with_unfolding_all rfl)
  repeat walk_at "e"
  refine WpE_call _ (G_law_next t) (C_law_next t) ?_
  repeat walk_at "e"
  refine WpC.room (k := n + 1) (S_next t (by decide) (by decide) hns40 (by decide) fun r0 r01 r02 => ?_) (by (first | lia | omega))
  repeat walk_at "e"
  show WpEs _ _ _ _ _ _ _
  repeat walk_at "e"
  refine WpE_call _ (G_law_next t) (C_law_next t) ?_
  repeat walk_at "e"
  refine WpC.room (k := n + 1) (S_next t (by decide) (by decide) hns40 (by decide) fun r1 r11 r12 => ?_) (by (first | lia | omega))
  repeat walk_at "e"
  show WpEs _ _ _ _ _ _ _
  repeat walk_at "e"
  refine WpE_call _ (G_law_next t) (C_law_next t) ?_
  repeat walk_at "e"
  refine WpC.room (k := n + 1) (S_next t (by decide) (by decide) hns40 (by decide) fun r2 r21 r22 => ?_) (by (first | lia | omega))
  repeat walk_at "e"
  show WpEs _ _ _ _ _ _ _
  repeat walk_at "e"
  refine WpS_cons ?_
  walk_at "s"
  repeat walk_at "e"
  refine WpE_call _ (G_law_next t) (C_law_next t) ?_
  repeat walk_at "e"
  refine WpC.room (k := n + 1) (S_next t (by decide) (by decide) hns40 (by decide) fun r3 r31 r32 => ?_) (by (first | lia | omega))
  repeat walk_at "e"
  have L : LawIn low hole base (r0 - 2) (r1 - 2) (r2 - 1) (r3 - 2) := ⟨by (first | lia | omega), by (first | lia | omega), by (first | lia | omega), by (first | lia | omega), by (first | lia | omega), by (first | lia | omega), by (first | lia | omega)⟩
  exact T8 t hns40 L ⟨hg1, hg2⟩ hpost m1 m2 m3 m4 m5 m6 m7 rfl rfl
end

/-! part J1 -/
theorem well_shape {P : Params} {h : Heap} {l : Addr} {d : WData} {xs : Array Value} (W : Well P h (.ref l) d) (hl : h.IsList l xs) : h.get? l = some (lstO xs 0) := by
  obtain ⟨o, ho, hc, n, hd⟩ := hl
  cases W with
  | list h1 h2 => rw [h1] at ho; cases ho; simp only [Data.seq.injEq] at hd; obtain ⟨rfl, rfl⟩ := hd; exact h1
  | bytearray h1 => rw [h1] at ho; cases ho; simp at hd
  | tuple h1 h2 => rw [h1] at ho; cases ho; simp at hc
  | dict h1 h2 => rw [h1] at ho; cases ho; simp at hd
  | set h1 h2 h3 h4 => rw [h1] at ho; cases ho; simp at hd
  | frozenset h1 h2 h3 h4 => rw [h1] at ho; cases ho; simp at hd
  | obj h1 h2 h3 h4 => rw [h1] at ho; cases ho; simp at hd
theorem WpQ.use {c : Cx} {n : Nat} {sc : Scope} {m : Loc} {σ : List O} {ss : List Stmt} {Φ : Fl → Loc → List O → Prop} (h : WpS c n sc m σ ss Φ) {A : Around} {env : Env} {μ : List Addr} {s : Shared} {Q : Flow → Shared → Prop} {E : Value → Shared → Prop}
    (hR : Room n A) (hG : HG c μ σ s.heap) (hF : FG c sc env m μ s.heap)
    (kk : ∀ r fl m' σ' μ' h' tk, Φ fl m' σ' → Step (Wof env) μ s.heap μ' h' → HG c μ' σ' h' → FG c sc env m' μ' h' → FlR h' μ' fl r → Q r { s with heap := h', toks := tk }) :
    wpAny (model c.prog c.w) A (execs ss env) Q E s := h A env μ s Q E hR hG hF kk
theorem law_names : (fd_law.1.scope.names.all fun p => decide (p.2 ≠ .cell) && decide (p.2 ≠ .free)) = true := by decide +kernel
set_option maxHeartbeats 16000000 in
theorem join {w : World} {s₁ : Shared} {mean : ExcName → Option Value} {mg mb : Str → Option Value} {l : Addr} {d : WData} {vs : List Value} {ns : List Int} {h₁ : Heap} {fa : Addr} {cd : Value} {nm : Str} {tk : Nat} {pv : Str → Option Value} {bd : List Stmt} {sc : Scope} {Q : Flow → Shared → Prop} {E : Value → Shared → Prop}
    (KX : (K0 w.params).In s₁.heap) (T : Top view (looseW view []) mean mg mb s₁.heap) (W : Well w.params s₁.heap (.ref l) d) (hL : s₁.heap.IsList l vs.toArray) (hI : IntsAre vs ns) (hn : ns.length < 1000)
    (F : Fr s₁.heap s₁.heap.objs.size h₁ pv) (hpv : pv "script" = some (.ref l))
    (hq : ∀ h' tk', (∀ b o, s₁.heap.get? b = some o → h'.get? b = some o) → Q (.ret (.bool true)) { s₁ with heap := h', toks := tk' })
    (hbd : bd = bd_law.1) (hsc : sc = fd_law.1.scope) :
    wpAny (model PySem.Challenge.rw_pq0373_01.row.prog w) (callerA.deeper (envOf nm sc s₁.heap.objs.size fa cd)) (execs bd (envOf nm sc s₁.heap.objs.size fa cd)) Q E { s₁ with heap := h₁, toks := tk } := by
  subst hsc
  have hobj := F.keep _ _ (well_shape W hL)
  generalize hc : ({ prog := PySem.Challenge.rw_pq0373_01.row.prog, w := w, K := K0 w.params, p := view, loose := looseW view [], mg := mg, mb := mb, h₀ := s₁.heap } : Cx) = c
  have ok : c.Ok := by subst hc; exact ⟨KX, topRead_of T⟩
  have t : Txt c := by subst hc; exact ⟨w.params, rfl⟩
  have hp : c.prog = PySem.Challenge.rw_pq0373_01.row.prog := by subst hc; rfl
  have hw : c.w = w := by subst hc; rfl
  have hh : c.h₀ = s₁.heap := by subst hc; rfl
  clear hc
  have G : HG c [] [] h₁ := ⟨ok, fun a o e => F.keep a o (by rw [← hh]; exact e), (fun a ha => nomatch ha), List.nodup_nil, rfl, fun i x a h1 => by simp at h1⟩
  have FF : FG c fd_law.1.scope (envOf nm fd_law.1.scope s₁.heap.objs.size fa cd) (bindV ((["script"] : List Str).zip [.lst (ns.map V.int)]) fun _ => none) [] h₁ := by
    refine ⟨rfl, rfl, rfl, rfl, ?_, (fun h => nomatch h), ⟨pv, F.ns, fun x v hx hm => ?_⟩, (fun p hp => nomatch hp), List.Pairwise.nil, fun x hx => ?_⟩
    · rw [hh]; exact get_size _
    · have hx' : x = "script" ∧ V.lst (ns.map V.int) = v := by
        by_cases q : x = "script"
        · subst q
          have : bindV ((["script"] : List Str).zip [V.lst (ns.map V.int)]) (fun _ => none) "script" = some (V.lst (ns.map V.int)) := rfl
          rw [this] at hm
          exact ⟨rfl, by cases hm; rfl⟩
        · have : bindV ((["script"] : List Str).zip [V.lst (ns.map V.int)]) (fun _ => none) x = none := if_neg q
          rw [this] at hm; cases hm
      obtain ⟨rfl, rfl⟩ := hx'
      exact ⟨_, hpv, VR.lst (fun h => nomatch h) hobj (VRs.of_ints hI)⟩
    · exfalso
      rcases hx with hx | hx
      · have := List.all_eq_true.mp law_names _ (mem_of_lookup hx)
        simp at this
      · have := List.all_eq_true.mp law_names _ (mem_of_lookup hx)
        simp at this
  have R : Room 11 (callerA.deeper (envOf nm fd_law.1.scope s₁.heap.objs.size fa cd)) := ⟨rfl, by show callerA.depth + 1 + 2 * 11 + 2 < 1000; decide +kernel, by rw [Around.deeper_units]; decide +kernel⟩
  have go := @S_body c 0 t ns (fun v _ => v = V.bool true) hn (by intro _; rfl)
  rw [← hp, ← hw]
  rw [← hbd] at go
  refine WpQ.use go R G FF fun r fl m' σ' μ' h' tk' hf S G' F' Vr => ?_
  have hb : ∀ b o, s₁.heap.get? b = some o → h'.get? b = some o := fun b o e => G'.base b o (by rw [hh]; exact e)
  cases fl with
  | ret v =>
    have hv : v = .bool true := hf
    subst hv
    obtain ⟨r', rfl, hr⟩ := Vr
    rw [hr.bool_inv]
    exact hq h' tk' hb
  | next => exact absurd (show V.none = V.bool true from hf) (by simp)
  | brk => exact absurd (show V.none = V.bool true from hf) (by simp)
  | cont => exact absurd (show V.none = V.bool true from hf) (by simp)

end Mine
end

section
open PySem PySem.W PyProof.Rows
namespace Mine
theorem lt63 {n : Nat} (h : ¬ ((63 : Nat) : Int) < (n : Int)) : n < 1000 := by (first | lia | omega)
theorem hdv (hc : ∀ v, v = Mine.view → WalkO v [] (XL v []) Mine.HK.says PySem.Challenge.rw_pq0373_01.row.toRowW Mine.D0 [] fun f vs => PySem.call f vs) : PySem.Challenge.rw_pq0373_01.Holds := Mine.hd (hc _ rfl)
end Mine
end

section
open PySem PySem.W PyProof.Rows
set_option maxRecDepth 100000 in
set_option maxHeartbeats 16000000 in
theorem PySem.Challenge.cw_pq0373_01_holds : PySem.Challenge.rw_pq0373_01.Holds :=
  Mine.hdv (by
  intro v hv
  k_go0
  (all_goals try k_fold)
  have hn63 := ‹¬ ((63 : Nat) : Int) < _›
  subst hv
  refine Mine.join ‹(Mine.K0 _).In _› ‹Top _ _ _ _ _ _› ‹Well _ _ _ _› ‹Heap.IsList _ _ _› ‹IntsAre _ _› ?_ ‹Fr _ _ _ _› rfl ?_ ?hbd ?hsc
  case hbd => rfl
  case hsc => rfl
  · exact Mine.lt63 hn63
  intro h' tk' hk
  exact ⟨.inl ⟨_, .bool true, [], rfl, fun _ => rfl, .bool true, by kernel_rfl, fun _ => ⟨List.nodup_nil, fun _ h => nomatch h⟩⟩, hk, rfl, ‹_ = #[]›⟩)
end
