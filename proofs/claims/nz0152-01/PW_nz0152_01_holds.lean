import PyProof.Rows.All
import Wide.All
import OpenK.AllK
import Wide.FinOn
import KE.KBits
import Lean
import PySem.Challenge.RW_nz0152_01
set_option Elab.async false
set_option maxRecDepth 100000
set_option compiler.extract_closed false
set_option linter.all false
namespace Mine
section
open PySem PySem.W PyProof.Rows
/-! the heap that the text's top leaves, as a fragment: the objects' addresses and contents; a def's parameters, body and scope are taken out of the row's own text -/
set_option genInjectivity false in
set_option genSizeOfSpec false in
structure FD where
  a : Arguments
  b : List Stmt
  s : Scope
noncomputable def stAt : List Stmt → Nat → Stmt
  | a :: _, 0 => a
  | _ :: l, n + 1 => stAt l n
  | [], _ => .Pass default
set_option backward.match.sparseCases false in
/-- what stands in a statement: parameters, body and scope of a def, a class's body, a loop's body and its target -/
noncomputable def gut : Stmt → FD × PySem.Expr
  | .ClassDef _ _ _ b .. => (⟨default, b, default⟩, .Constant .none 0 ⟨0, 0, 0, 0⟩)
  | .FunctionDef _ a b _ _ _ s _ _ _ => (⟨a, b, s⟩, .Constant .none 0 ⟨0, 0, 0, 0⟩)
  | .For e _ b _ _ => (⟨default, b, default⟩, e)
  | _ => (⟨default, [], default⟩, .Constant .none 0 ⟨0, 0, 0, 0⟩)
noncomputable def kids (s : Stmt) : List Stmt := (gut s).1.b
noncomputable def fdOf (s : Stmt) : FD := (gut s).1
noncomputable def fb : List Stmt → List Stmt
  | a :: _ => kids a
  | [] => []
noncomputable def ftgt : List Stmt → PySem.Expr
  | a :: _ => (gut a).2
  | [] => .Constant .none 0 ⟨0, 0, 0, 0⟩
noncomputable abbrev PB : List Stmt := PySem.Challenge.pw_nz0152_01.main.body
noncomputable def FDAt (s : Stmt) : Type := { x : FD // x = fdOf s }
noncomputable def f2_0 : FDAt (stAt (kids (stAt PB 2)) 0) := ⟨⟨_, _, _⟩, rfl⟩
noncomputable def f11 : FDAt (stAt PB 11) := ⟨⟨_, _, _⟩, rfl⟩
noncomputable def f12 : FDAt (stAt PB 12) := ⟨⟨_, _, _⟩, rfl⟩
noncomputable def f13 : FDAt (stAt PB 13) := ⟨⟨_, _, _⟩, rfl⟩
noncomputable def f14 : FDAt (stAt PB 14) := ⟨⟨_, _, _⟩, rfl⟩
noncomputable def f15 : FDAt (stAt PB 15) := ⟨⟨_, _, _⟩, rfl⟩
noncomputable def f20_0 : FDAt (stAt (kids (stAt PB 20)) 0) := ⟨⟨_, _, _⟩, rfl⟩
noncomputable def f20_1 : FDAt (stAt (kids (stAt PB 20)) 1) := ⟨⟨_, _, _⟩, rfl⟩
noncomputable def f20_6 : FDAt (stAt (kids (stAt PB 20)) 6) := ⟨⟨_, _, _⟩, rfl⟩
noncomputable def f20_8 : FDAt (stAt (kids (stAt PB 20)) 8) := ⟨⟨_, _, _⟩, rfl⟩
noncomputable def f20_13 : FDAt (stAt (kids (stAt PB 20)) 13) := ⟨⟨_, _, _⟩, rfl⟩
noncomputable def f20_14 : FDAt (stAt (kids (stAt PB 20)) 14) := ⟨⟨_, _, _⟩, rfl⟩
noncomputable def f20_15 : FDAt (stAt (kids (stAt PB 20)) 15) := ⟨⟨_, _, _⟩, rfl⟩
noncomputable def f20_16 : FDAt (stAt (kids (stAt PB 20)) 16) := ⟨⟨_, _, _⟩, rfl⟩
noncomputable def f20_17 : FDAt (stAt (kids (stAt PB 20)) 17) := ⟨⟨_, _, _⟩, rfl⟩
noncomputable def f20_18 : FDAt (stAt (kids (stAt PB 20)) 18) := ⟨⟨_, _, _⟩, rfl⟩
noncomputable def f20_19 : FDAt (stAt (kids (stAt PB 20)) 19) := ⟨⟨_, _, _⟩, rfl⟩
noncomputable def f23_0 : FDAt (stAt (kids (stAt PB 23)) 0) := ⟨⟨_, _, _⟩, rfl⟩
noncomputable def f23_1 : FDAt (stAt (kids (stAt PB 23)) 1) := ⟨⟨_, _, _⟩, rfl⟩
noncomputable def f23_3 : FDAt (stAt (kids (stAt PB 23)) 3) := ⟨⟨_, _, _⟩, rfl⟩
noncomputable def f23_4 : FDAt (stAt (kids (stAt PB 23)) 4) := ⟨⟨_, _, _⟩, rfl⟩
noncomputable def f23_7 : FDAt (stAt (kids (stAt PB 23)) 7) := ⟨⟨_, _, _⟩, rfl⟩
noncomputable def f23_8 : FDAt (stAt (kids (stAt PB 23)) 8) := ⟨⟨_, _, _⟩, rfl⟩
noncomputable def f23_9 : FDAt (stAt (kids (stAt PB 23)) 9) := ⟨⟨_, _, _⟩, rfl⟩
noncomputable def f23_10 : FDAt (stAt (kids (stAt PB 23)) 10) := ⟨⟨_, _, _⟩, rfl⟩
noncomputable def f25 : FDAt (stAt PB 25) := ⟨⟨_, _, _⟩, rfl⟩
noncomputable def f26 : FDAt (stAt PB 26) := ⟨⟨_, _, _⟩, rfl⟩
noncomputable def f27 : FDAt (stAt PB 27) := ⟨⟨_, _, _⟩, rfl⟩
noncomputable def f28 : FDAt (stAt PB 28) := ⟨⟨_, _, _⟩, rfl⟩
noncomputable def f29 : FDAt (stAt PB 29) := ⟨⟨_, _, _⟩, rfl⟩
noncomputable def f30 : FDAt (stAt PB 30) := ⟨⟨_, _, _⟩, rfl⟩
noncomputable def f31 : FDAt (stAt PB 31) := ⟨⟨_, _, _⟩, rfl⟩
noncomputable def f32 : FDAt (stAt PB 32) := ⟨⟨_, _, _⟩, rfl⟩
noncomputable def f33 : FDAt (stAt PB 33) := ⟨⟨_, _, _⟩, rfl⟩
noncomputable def f34 : FDAt (stAt PB 34) := ⟨⟨_, _, _⟩, rfl⟩
noncomputable abbrev lit (o t : Obj) (_ : o = t) : Obj := o
noncomputable def heap : Params → Frag := fun P => 
(nat_lit 2, ⟨.none, none, .dict #[⟨PyData.keyHash P "type.__subclasses__.Exception.0", .str "type.__subclasses__.Exception.0" 230, .int 47 0⟩, ⟨PyData.keyHash P "type.__subclasses__.Exception.n", .str "type.__subclasses__.Exception.n" 231, .int 1 0⟩] 2, #[]⟩) ::
(nat_lit 3, ⟨.type "dict", none, .dict #[⟨PyData.keyHash P "__name__", .str "__name__" 165, .str "law_nz0152_01" 1053⟩, ⟨PyData.keyHash P "__doc__", .str "__doc__" 166, .none⟩, ⟨PyData.keyHash P "__package__", .str "__package__" 167, .none⟩, ⟨PyData.keyHash P "__loader__", .str "__loader__" 168, .builtin "__main__.__loader__#opaque"⟩, ⟨PyData.keyHash P "__spec__", .str "__spec__" 169, .none⟩, ⟨PyData.keyHash P "__annotations__", .str "__annotations__" 170, .ref 6⟩, ⟨PyData.keyHash P "__builtins__", .str "__builtins__" 171, .ref 4⟩, ⟨PyData.keyHash P "__file__", .str "__file__" 173, .str "/claim/cut.py" 172⟩, ⟨PyData.keyHash P "__cached__", .str "__cached__" 174, .none⟩, ⟨PyData.keyHash P "_wall", .str "_wall" 193, .ref 21⟩, ⟨PyData.keyHash P "SmtError", .str "SmtError" 233, .ref 47⟩, ⟨PyData.keyHash P "SortFault", .str "SortFault" 256, .ref 67⟩, ⟨PyData.keyHash P "LimitFault", .str "LimitFault" 279, .ref 86⟩, ⟨PyData.keyHash P "gcd_of", .str "gcd_of" 289, .ref 95⟩, ⟨PyData.keyHash P "ratio", .str "ratio" 298, .ref 102⟩, ⟨PyData.keyHash P "mul", .str "mul" 306, .ref 109⟩, ⟨PyData.keyHash P "is_whole", .str "is_whole" 313, .ref 116⟩, ⟨PyData.keyHash P "mask_of", .str "mask_of" 322, .ref 123⟩, ⟨PyData.keyHash P "signed_of", .str "signed_of" 330, .ref 130⟩, ⟨PyData.keyHash P "extract_value", .str "extract_value" 339, .ref 137⟩, ⟨PyData.keyHash P "concat_value", .str "concat_value" 348, .ref 144⟩, ⟨PyData.keyHash P "sign_extended", .str "sign_extended" 357, .ref 151⟩, ⟨PyData.keyHash P "BOOL", .str "BOOL" 359, .int 0 358⟩, ⟨PyData.keyHash P "INT", .str "INT" 361, .int 1 360⟩, ⟨PyData.keyHash P "REAL", .str "REAL" 363, .int 2 362⟩, ⟨PyData.keyHash P "WIDEST", .str "WIDEST" 365, .int 4096 364⟩, ⟨PyData.keyHash P "Bank", .str "Bank" 649, .ref 364⟩, ⟨PyData.keyHash P "BoolBank", .str "BoolBank" 782, .ref 469⟩, ⟨PyData.keyHash P "NumberBank", .str "NumberBank" 896, .ref 558⟩, ⟨PyData.keyHash P "TermBank", .str "TermBank" 1052, .ref 677⟩, ⟨PyData.keyHash P "_law_draw", .str "_law_draw" 1063, .ref 686⟩, ⟨PyData.keyHash P "_law_spot", .str "_law_spot" 1072, .ref 693⟩, ⟨PyData.keyHash P "_law_some", .str "_law_some" 1078, .ref 698⟩, ⟨PyData.keyHash P "_law_kept", .str "_law_kept" 1091, .ref 705⟩, ⟨PyData.keyHash P "_law_reckoned", .str "_law_reckoned" 1102, .ref 712⟩, ⟨PyData.keyHash P "_law_listed", .str "_law_listed" 1112, .ref 719⟩, ⟨PyData.keyHash P "_law_due", .str "_law_due" 1118, .ref 724⟩, ⟨PyData.keyHash P "_law_asked", .str "_law_asked" 1129, .ref 731⟩, ⟨PyData.keyHash P "_law_step", .str "_law_step" 1135, .ref 736⟩, ⟨PyData.keyHash P "law", .str "law" 1141, .ref 741⟩] 40, #[]⟩) ::
(nat_lit 22, ⟨.type "tuple", none, .seq #[.type "Exception"] 0, #[]⟩) ::
(nat_lit 25, ⟨.type "cell", none, .cell (some (.ref 47)), #[]⟩) ::
(nat_lit 30, ⟨.type "tuple", none, .seq #[.ref 25] 0, #[]⟩) ::
(nat_lit 36, ⟨.type "code", none, .fields #[.str "__init__" 208, .str "SmtError.__init__" 209, .str "/claim/cut.py" 210, .int 7 0, .int 2 0, .int 0 0, .int 0 0, .int 3 0, .ref 31, .bool true, .int 181 0, .ref 32, .none, .ref 33, .ref 34, .ref 35, .int 214 0, .int 7 0, .str "/claim/cut.py" 215], #[]⟩) ::
(nat_lit 37, lit _ ⟨.type "function", none, .func ⟨"__init__", "SmtError.__init__", f2_0.1.a, .stmts f2_0.1.b, f2_0.1.s, 3, [("__class__", 25)], .none, .none, .none, .str "minismt.errors" 194, none, .ref 36, .ref 30, 0⟩, #[]⟩ (by dsimp only [f2_0])) ::
(nat_lit 46, ⟨.type "dict", none, .dict #[⟨PyData.keyHash P "__module__", .str "__module__" 203, .str "minismt.errors" 194⟩, ⟨PyData.keyHash P "__firstlineno__", .str "__firstlineno__" 207, .int 5 206⟩, ⟨PyData.keyHash P "__init__", .str "__init__" 216, .ref 37⟩, ⟨PyData.keyHash P "told", .str "told" 223, .ref 44⟩, ⟨PyData.keyHash P "__static_attributes__", .str "__static_attributes__" 225, .ref 45⟩, ⟨PyData.keyHash P "__weakref__", .str "__weakref__" 228, .ref 48⟩, ⟨PyData.keyHash P "__doc__", .str "__doc__" 229, .none⟩] 4, #[]⟩) ::
(nat_lit 47, ⟨.type "type", none, .cls ⟨"SmtError", [.type "Exception"], [.ref 47, .type "Exception", .type "BaseException", .type "object"], 46, "SmtError", true, [], [.ref 67, .ref 86], false, none, false⟩, #[some (.ref 22), none, some (.str "SmtError" 196), some (.str "SmtError" 204), some (.builtin "Exception.__new__"), some (.bool true)]⟩) ::
(nat_lit 51, ⟨.type "tuple", none, .seq #[.ref 47] 0, #[]⟩) ::
(nat_lit 66, ⟨.type "dict", none, .dict #[⟨PyData.keyHash P "__module__", .str "__module__" 241, .str "minismt.errors" 194⟩, ⟨PyData.keyHash P "__firstlineno__", .str "__firstlineno__" 245, .int 13 244⟩, ⟨PyData.keyHash P "told", .str "told" 252, .ref 64⟩, ⟨PyData.keyHash P "__static_attributes__", .str "__static_attributes__" 253, .ref 65⟩, ⟨PyData.keyHash P "__doc__", .str "__doc__" 254, .none⟩] 2, #[]⟩) ::
(nat_lit 67, ⟨.type "type", none, .cls ⟨"SortFault", [.ref 47], [.ref 67, .ref 47, .type "Exception", .type "BaseException", .type "object"], 66, "SortFault", true, [], [], false, none, false⟩, #[some (.ref 51), none, some (.str "SortFault" 234), some (.str "SortFault" 242), some (.builtin "Exception.__new__"), some (.bool true)]⟩) ::
(nat_lit 70, ⟨.type "tuple", none, .seq #[.ref 47] 0, #[]⟩) ::
(nat_lit 85, ⟨.type "dict", none, .dict #[⟨PyData.keyHash P "__module__", .str "__module__" 264, .str "minismt.errors" 194⟩, ⟨PyData.keyHash P "__firstlineno__", .str "__firstlineno__" 268, .int 17 267⟩, ⟨PyData.keyHash P "told", .str "told" 275, .ref 83⟩, ⟨PyData.keyHash P "__static_attributes__", .str "__static_attributes__" 276, .ref 84⟩, ⟨PyData.keyHash P "__doc__", .str "__doc__" 277, .none⟩] 2, #[]⟩) ::
(nat_lit 86, ⟨.type "type", none, .cls ⟨"LimitFault", [.ref 47], [.ref 86, .ref 47, .type "Exception", .type "BaseException", .type "object"], 85, "LimitFault", true, [], [], false, none, false⟩, #[some (.ref 70), none, some (.str "LimitFault" 257), some (.str "LimitFault" 265), some (.builtin "Exception.__new__"), some (.bool true)]⟩) ::
(nat_lit 122, ⟨.type "code", none, .fields #[.str "mask_of" 316, .str "mask_of" 317, .str "/claim/cut.py" 318, .int 41 0, .int 1 0, .int 0 0, .int 0 0, .int 3 0, .ref 117, .bool true, .int 181 0, .ref 118, .none, .ref 119, .ref 120, .ref 121, .int 320 0, .int 41 0, .str "/claim/cut.py" 321], #[]⟩) ::
(nat_lit 123, lit _ ⟨.type "function", none, .func ⟨"mask_of", "mask_of", f11.1.a, .stmts f11.1.b, f11.1.s, 3, [], .none, .none, .none, .str "minismt.terms" 314, none, .ref 122, .none, 0⟩, #[]⟩ (by dsimp only [f11])) ::
(nat_lit 129, ⟨.type "code", none, .fields #[.str "signed_of" 323, .str "signed_of" 324, .str "/claim/cut.py" 325, .int 43 0, .int 2 0, .int 0 0, .int 0 0, .int 3 0, .ref 124, .bool true, .int 181 0, .ref 125, .none, .ref 126, .ref 127, .ref 128, .int 328 0, .int 43 0, .str "/claim/cut.py" 329], #[]⟩) ::
(nat_lit 130, lit _ ⟨.type "function", none, .func ⟨"signed_of", "signed_of", f12.1.a, .stmts f12.1.b, f12.1.s, 3, [], .none, .none, .none, .str "minismt.terms" 314, none, .ref 129, .none, 0⟩, #[]⟩ (by dsimp only [f12])) ::
(nat_lit 136, ⟨.type "code", none, .fields #[.str "extract_value" 331, .str "extract_value" 332, .str "/claim/cut.py" 333, .int 45 0, .int 3 0, .int 0 0, .int 0 0, .int 3 0, .ref 131, .bool true, .int 181 0, .ref 132, .none, .ref 133, .ref 134, .ref 135, .int 337 0, .int 45 0, .str "/claim/cut.py" 338], #[]⟩) ::
(nat_lit 137, lit _ ⟨.type "function", none, .func ⟨"extract_value", "extract_value", f13.1.a, .stmts f13.1.b, f13.1.s, 3, [], .none, .none, .none, .str "minismt.terms" 314, none, .ref 136, .none, 0⟩, #[]⟩ (by dsimp only [f13])) ::
(nat_lit 143, ⟨.type "code", none, .fields #[.str "concat_value" 340, .str "concat_value" 341, .str "/claim/cut.py" 342, .int 47 0, .int 3 0, .int 0 0, .int 0 0, .int 3 0, .ref 138, .bool true, .int 181 0, .ref 139, .none, .ref 140, .ref 141, .ref 142, .int 346 0, .int 47 0, .str "/claim/cut.py" 347], #[]⟩) ::
(nat_lit 144, lit _ ⟨.type "function", none, .func ⟨"concat_value", "concat_value", f14.1.a, .stmts f14.1.b, f14.1.s, 3, [], .none, .none, .none, .str "minismt.terms" 314, none, .ref 143, .none, 0⟩, #[]⟩ (by dsimp only [f14])) ::
(nat_lit 150, ⟨.type "code", none, .fields #[.str "sign_extended" 349, .str "sign_extended" 350, .str "/claim/cut.py" 351, .int 49 0, .int 3 0, .int 0 0, .int 0 0, .int 3 0, .ref 145, .bool true, .int 181 0, .ref 146, .none, .ref 147, .ref 148, .ref 149, .int 355 0, .int 49 0, .str "/claim/cut.py" 356], #[]⟩) ::
(nat_lit 151, lit _ ⟨.type "function", none, .func ⟨"sign_extended", "sign_extended", f15.1.a, .stmts f15.1.b, f15.1.s, 3, [], .none, .none, .none, .str "minismt.terms" 314, none, .ref 150, .none, 0⟩, #[]⟩ (by dsimp only [f15])) ::
(nat_lit 164, ⟨.type "code", none, .fields #[.str "__init__" 378, .str "Bank.__init__" 379, .str "/claim/cut.py" 380, .int 57 0, .int 1 0, .int 0 0, .int 0 0, .int 3 0, .ref 159, .bool true, .int 181 0, .ref 160, .none, .ref 161, .ref 162, .ref 163, .int 382 0, .int 57 0, .str "/claim/cut.py" 383], #[]⟩) ::
(nat_lit 165, lit _ ⟨.type "function", none, .func ⟨"__init__", "Bank.__init__", f20_0.1.a, .stmts f20_0.1.b, f20_0.1.s, 3, [], .none, .none, .none, .str "minismt.terms" 314, none, .ref 164, .none, 0⟩, #[]⟩ (by dsimp only [f20_0])) ::
(nat_lit 171, ⟨.type "code", none, .fields #[.str "sort_name" 385, .str "Bank.sort_name" 386, .str "/claim/cut.py" 387, .int 72 0, .int 2 0, .int 0 0, .int 0 0, .int 3 0, .ref 166, .bool true, .int 181 0, .ref 167, .none, .ref 168, .ref 169, .ref 170, .int 390 0, .int 72 0, .str "/claim/cut.py" 391], #[]⟩) ::
(nat_lit 172, lit _ ⟨.type "function", none, .func ⟨"sort_name", "Bank.sort_name", f20_1.1.a, .stmts f20_1.1.b, f20_1.1.s, 3, [], .none, .none, .none, .str "minismt.terms" 314, none, .ref 171, .none, 0⟩, #[]⟩ (by dsimp only [f20_1])) ::
(nat_lit 206, ⟨.type "code", none, .fields #[.str "declare_fun" 425, .str "Bank.declare_fun" 426, .str "/claim/cut.py" 427, .int 87 0, .int 4 0, .int 0 0, .int 0 0, .int 3 0, .ref 201, .bool true, .int 181 0, .ref 202, .none, .ref 203, .ref 204, .ref 205, .int 432 0, .int 87 0, .str "/claim/cut.py" 433], #[]⟩) ::
(nat_lit 207, lit _ ⟨.type "function", none, .func ⟨"declare_fun", "Bank.declare_fun", f20_6.1.a, .stmts f20_6.1.b, f20_6.1.s, 3, [], .none, .none, .none, .str "minismt.terms" 314, none, .ref 206, .none, 0⟩, #[]⟩ (by dsimp only [f20_6])) ::
(nat_lit 220, ⟨.type "code", none, .fields #[.str "fresh_const" 445, .str "Bank.fresh_const" 446, .str "/claim/cut.py" 447, .int 96 0, .int 3 0, .int 0 0, .int 0 0, .int 3 0, .ref 215, .bool true, .int 181 0, .ref 216, .none, .ref 217, .ref 218, .ref 219, .int 451 0, .int 96 0, .str "/claim/cut.py" 452], #[]⟩) ::
(nat_lit 221, lit _ ⟨.type "function", none, .func ⟨"fresh_const", "Bank.fresh_const", f20_8.1.a, .stmts f20_8.1.b, f20_8.1.s, 3, [], .none, .none, .none, .str "minismt.terms" 314, none, .ref 220, .none, 0⟩, #[]⟩ (by dsimp only [f20_8])) ::
(nat_lit 255, ⟨.type "code", none, .fields #[.str "op" 485, .str "Bank.op" 486, .str "/claim/cut.py" 487, .int 111 0, .int 2 0, .int 0 0, .int 0 0, .int 3 0, .ref 250, .bool true, .int 181 0, .ref 251, .none, .ref 252, .ref 253, .ref 254, .int 490 0, .int 111 0, .str "/claim/cut.py" 491], #[]⟩) ::
(nat_lit 256, lit _ ⟨.type "function", none, .func ⟨"op", "Bank.op", f20_13.1.a, .stmts f20_13.1.b, f20_13.1.s, 3, [], .none, .none, .none, .str "minismt.terms" 314, none, .ref 255, .none, 0⟩, #[]⟩ (by dsimp only [f20_13])) ::
(nat_lit 262, ⟨.type "code", none, .fields #[.str "args" 493, .str "Bank.args" 494, .str "/claim/cut.py" 495, .int 114 0, .int 2 0, .int 0 0, .int 0 0, .int 3 0, .ref 257, .bool true, .int 181 0, .ref 258, .none, .ref 259, .ref 260, .ref 261, .int 498 0, .int 114 0, .str "/claim/cut.py" 499], #[]⟩) ::
(nat_lit 263, lit _ ⟨.type "function", none, .func ⟨"args", "Bank.args", f20_14.1.a, .stmts f20_14.1.b, f20_14.1.s, 3, [], .none, .none, .none, .str "minismt.terms" 314, none, .ref 262, .none, 0⟩, #[]⟩ (by dsimp only [f20_14])) ::
(nat_lit 269, ⟨.type "code", none, .fields #[.str "sort" 501, .str "Bank.sort" 502, .str "/claim/cut.py" 503, .int 117 0, .int 2 0, .int 0 0, .int 0 0, .int 3 0, .ref 264, .bool true, .int 181 0, .ref 265, .none, .ref 266, .ref 267, .ref 268, .int 506 0, .int 117 0, .str "/claim/cut.py" 507], #[]⟩) ::
(nat_lit 270, lit _ ⟨.type "function", none, .func ⟨"sort", "Bank.sort", f20_15.1.a, .stmts f20_15.1.b, f20_15.1.s, 3, [], .none, .none, .none, .str "minismt.terms" 314, none, .ref 269, .none, 0⟩, #[]⟩ (by dsimp only [f20_15])) ::
(nat_lit 276, ⟨.type "code", none, .fields #[.str "data" 509, .str "Bank.data" 510, .str "/claim/cut.py" 511, .int 120 0, .int 2 0, .int 0 0, .int 0 0, .int 3 0, .ref 271, .bool true, .int 181 0, .ref 272, .none, .ref 273, .ref 274, .ref 275, .int 514 0, .int 120 0, .str "/claim/cut.py" 515], #[]⟩) ::
(nat_lit 277, lit _ ⟨.type "function", none, .func ⟨"data", "Bank.data", f20_16.1.a, .stmts f20_16.1.b, f20_16.1.s, 3, [], .none, .none, .none, .str "minismt.terms" 314, none, .ref 276, .none, 0⟩, #[]⟩ (by dsimp only [f20_16])) ::
(nat_lit 283, ⟨.type "code", none, .fields #[.str "width" 517, .str "Bank.width" 518, .str "/claim/cut.py" 519, .int 123 0, .int 2 0, .int 0 0, .int 0 0, .int 3 0, .ref 278, .bool true, .int 181 0, .ref 279, .none, .ref 280, .ref 281, .ref 282, .int 522 0, .int 123 0, .str "/claim/cut.py" 523], #[]⟩) ::
(nat_lit 284, lit _ ⟨.type "function", none, .func ⟨"width", "Bank.width", f20_17.1.a, .stmts f20_17.1.b, f20_17.1.s, 3, [], .none, .none, .none, .str "minismt.terms" 314, none, .ref 283, .none, 0⟩, #[]⟩ (by dsimp only [f20_17])) ::
(nat_lit 290, ⟨.type "code", none, .fields #[.str "size" 525, .str "Bank.size" 526, .str "/claim/cut.py" 527, .int 126 0, .int 1 0, .int 0 0, .int 0 0, .int 3 0, .ref 285, .bool true, .int 181 0, .ref 286, .none, .ref 287, .ref 288, .ref 289, .int 529 0, .int 126 0, .str "/claim/cut.py" 530], #[]⟩) ::
(nat_lit 291, lit _ ⟨.type "function", none, .func ⟨"size", "Bank.size", f20_18.1.a, .stmts f20_18.1.b, f20_18.1.s, 3, [], .none, .none, .none, .str "minismt.terms" 314, none, .ref 290, .none, 0⟩, #[]⟩ (by dsimp only [f20_18])) ::
(nat_lit 297, ⟨.type "code", none, .fields #[.str "make" 532, .str "Bank.make" 533, .str "/claim/cut.py" 534, .int 129 0, .int 5 0, .int 0 0, .int 0 0, .int 3 0, .ref 292, .bool true, .int 181 0, .ref 293, .none, .ref 294, .ref 295, .ref 296, .int 542 0, .int 129 0, .str "/claim/cut.py" 543], #[]⟩) ::
(nat_lit 298, lit _ ⟨.type "function", none, .func ⟨"make", "Bank.make", f20_19.1.a, .stmts f20_19.1.b, f20_19.1.s, 3, [], .none, .none, .none, .str "minismt.terms" 314, none, .ref 297, .none, 0⟩, #[]⟩ (by dsimp only [f20_19])) ::
(nat_lit 363, ⟨.type "dict", none, .dict #[⟨PyData.keyHash P "__module__", .str "__module__" 373, .str "minismt.terms" 314⟩, ⟨PyData.keyHash P "__firstlineno__", .str "__firstlineno__" 377, .int 55 376⟩, ⟨PyData.keyHash P "__init__", .str "__init__" 384, .ref 165⟩, ⟨PyData.keyHash P "sort_name", .str "sort_name" 392, .ref 172⟩, ⟨PyData.keyHash P "declare_sort", .str "declare_sort" 400, .ref 179⟩, ⟨PyData.keyHash P "width_of", .str "width_of" 408, .ref 186⟩, ⟨PyData.keyHash P "is_number_sort", .str "is_number_sort" 416, .ref 193⟩, ⟨PyData.keyHash P "is_free_sort", .str "is_free_sort" 424, .ref 200⟩, ⟨PyData.keyHash P "declare_fun", .str "declare_fun" 434, .ref 207⟩, ⟨PyData.keyHash P "fresh_fun", .str "fresh_fun" 444, .ref 214⟩, ⟨PyData.keyHash P "fresh_const", .str "fresh_const" 453, .ref 221⟩, ⟨PyData.keyHash P "fun_name", .str "fun_name" 461, .ref 228⟩, ⟨PyData.keyHash P "fun_arg_sorts", .str "fun_arg_sorts" 469, .ref 235⟩, ⟨PyData.keyHash P "fun_result", .str "fun_result" 477, .ref 242⟩, ⟨PyData.keyHash P "fun_count", .str "fun_count" 484, .ref 249⟩, ⟨PyData.keyHash P "op", .str "op" 492, .ref 256⟩, ⟨PyData.keyHash P "args", .str "args" 500, .ref 263⟩, ⟨PyData.keyHash P "sort", .str "sort" 508, .ref 270⟩, ⟨PyData.keyHash P "data", .str "data" 516, .ref 277⟩, ⟨PyData.keyHash P "width", .str "width" 524, .ref 284⟩, ⟨PyData.keyHash P "size", .str "size" 531, .ref 291⟩, ⟨PyData.keyHash P "make", .str "make" 544, .ref 298⟩, ⟨PyData.keyHash P "find_made", .str "find_made" 555, .ref 305⟩, ⟨PyData.keyHash P "is_value", .str "is_value" 563, .ref 312⟩, ⟨PyData.keyHash P "want", .str "want" 573, .ref 319⟩, ⟨PyData.keyHash P "want_all", .str "want_all" 583, .ref 326⟩, ⟨PyData.keyHash P "true_term", .str "true_term" 590, .ref 333⟩, ⟨PyData.keyHash P "false_term", .str "false_term" 597, .ref 340⟩, ⟨PyData.keyHash P "bool_term", .str "bool_term" 605, .ref 347⟩, ⟨PyData.keyHash P "parts", .str "parts" 613, .ref 354⟩, ⟨PyData.keyHash P "parts_of_all", .str "parts_of_all" 628, .ref 361⟩, ⟨PyData.keyHash P "__static_attributes__", .str "__static_attributes__" 642, .ref 362⟩, ⟨PyData.keyHash P "__dict__", .str "__dict__" 644, .ref 365⟩, ⟨PyData.keyHash P "__weakref__", .str "__weakref__" 646, .ref 366⟩, ⟨PyData.keyHash P "__doc__", .str "__doc__" 647, .none⟩] 4, #[]⟩) ::
(nat_lit 364, ⟨.type "type", none, .cls ⟨"Bank", [.type "object"], [.ref 364, .type "object"], 363, "Bank", true, [], [.ref 469], false, none, false⟩, #[none, none, some (.str "Bank" 366), some (.str "Bank" 374), some (.builtin "object.__new__"), some (.bool true)]⟩) ::
(nat_lit 369, ⟨.type "tuple", none, .seq #[.ref 364] 0, #[]⟩) ::
(nat_lit 468, ⟨.type "dict", none, .dict #[⟨PyData.keyHash P "__module__", .str "__module__" 657, .str "minismt.terms" 314⟩, ⟨PyData.keyHash P "__firstlineno__", .str "__firstlineno__" 661, .int 183 660⟩, ⟨PyData.keyHash P "not_of", .str "not_of" 669, .ref 382⟩, ⟨PyData.keyHash P "and_of", .str "and_of" 677, .ref 389⟩, ⟨PyData.keyHash P "or_of", .str "or_of" 685, .ref 396⟩, ⟨PyData.keyHash P "xor_of", .str "xor_of" 694, .ref 403⟩, ⟨PyData.keyHash P "implies_of", .str "implies_of" 703, .ref 410⟩, ⟨PyData.keyHash P "iff", .str "iff" 712, .ref 417⟩, ⟨PyData.keyHash P "eq", .str "eq" 721, .ref 424⟩, ⟨PyData.keyHash P "distinct", .str "distinct" 729, .ref 431⟩, ⟨PyData.keyHash P "ite", .str "ite" 739, .ref 438⟩, ⟨PyData.keyHash P "app", .str "app" 751, .ref 445⟩, ⟨PyData.keyHash P "folded", .str "folded" 760, .ref 452⟩, ⟨PyData.keyHash P "with_args", .str "with_args" 769, .ref 459⟩, ⟨PyData.keyHash P "replaced", .str "replaced" 778, .ref 466⟩, ⟨PyData.keyHash P "__static_attributes__", .str "__static_attributes__" 779, .ref 467⟩, ⟨PyData.keyHash P "__doc__", .str "__doc__" 780, .none⟩] 2, #[]⟩) ::
(nat_lit 469, ⟨.type "type", none, .cls ⟨"BoolBank", [.ref 364], [.ref 469, .ref 364, .type "object"], 468, "BoolBank", true, [], [.ref 558], false, none, false⟩, #[some (.ref 369), none, some (.str "BoolBank" 650), some (.str "BoolBank" 658), some (.builtin "object.__new__"), some (.bool true)]⟩) ::
(nat_lit 472, ⟨.type "tuple", none, .seq #[.ref 469] 0, #[]⟩) ::
(nat_lit 557, ⟨.type "dict", none, .dict #[⟨PyData.keyHash P "__module__", .str "__module__" 790, .str "minismt.terms" 314⟩, ⟨PyData.keyHash P "__firstlineno__", .str "__firstlineno__" 794, .int 228 793⟩, ⟨PyData.keyHash P "num", .str "num" 803, .ref 485⟩, ⟨PyData.keyHash P "want_number", .str "want_number" 812, .ref 492⟩, ⟨PyData.keyHash P "plus", .str "plus" 820, .ref 499⟩, ⟨PyData.keyHash P "times_num", .str "times_num" 830, .ref 506⟩, ⟨PyData.keyHash P "times", .str "times" 839, .ref 513⟩, ⟨PyData.keyHash P "over_num", .str "over_num" 848, .ref 520⟩, ⟨PyData.keyHash P "negative", .str "negative" 856, .ref 527⟩, ⟨PyData.keyHash P "minus", .str "minus" 865, .ref 534⟩, ⟨PyData.keyHash P "le", .str "le" 874, .ref 541⟩, ⟨PyData.keyHash P "lt", .str "lt" 883, .ref 548⟩, ⟨PyData.keyHash P "with_args", .str "with_args" 892, .ref 555⟩, ⟨PyData.keyHash P "__static_attributes__", .str "__static_attributes__" 893, .ref 556⟩, ⟨PyData.keyHash P "__doc__", .str "__doc__" 894, .none⟩] 2, #[]⟩) ::
(nat_lit 558, ⟨.type "type", none, .cls ⟨"NumberBank", [.ref 469], [.ref 558, .ref 469, .ref 364, .type "object"], 557, "NumberBank", true, [], [.ref 677], false, none, false⟩, #[some (.ref 472), none, some (.str "NumberBank" 783), some (.str "NumberBank" 791), some (.builtin "object.__new__"), some (.bool true)]⟩) ::
(nat_lit 561, ⟨.type "tuple", none, .seq #[.ref 558] 0, #[]⟩) ::
(nat_lit 564, ⟨.type "cell", none, .cell (some (.ref 677)), #[]⟩) ::
(nat_lit 569, ⟨.type "tuple", none, .seq #[.ref 564] 0, #[]⟩) ::
(nat_lit 575, ⟨.type "code", none, .fields #[.str "__init__" 909, .str "TermBank.__init__" 910, .str "/claim/cut.py" 911, .int 279 0, .int 1 0, .int 0 0, .int 0 0, .int 3 0, .ref 570, .bool true, .int 181 0, .ref 571, .none, .ref 572, .ref 573, .ref 574, .int 914 0, .int 279 0, .str "/claim/cut.py" 915], #[]⟩) ::
(nat_lit 576, lit _ ⟨.type "function", none, .func ⟨"__init__", "TermBank.__init__", f23_0.1.a, .stmts f23_0.1.b, f23_0.1.s, 3, [("__class__", 564)], .none, .none, .none, .str "minismt.terms" 314, none, .ref 575, .ref 569, 0⟩, #[]⟩ (by dsimp only [f23_0])) ::
(nat_lit 582, ⟨.type "code", none, .fields #[.str "bv_sort" 917, .str "TermBank.bv_sort" 918, .str "/claim/cut.py" 919, .int 283 0, .int 2 0, .int 0 0, .int 0 0, .int 3 0, .ref 577, .bool true, .int 181 0, .ref 578, .none, .ref 579, .ref 580, .ref 581, .int 922 0, .int 283 0, .str "/claim/cut.py" 923], #[]⟩) ::
(nat_lit 583, lit _ ⟨.type "function", none, .func ⟨"bv_sort", "TermBank.bv_sort", f23_1.1.a, .stmts f23_1.1.b, f23_1.1.s, 3, [], .none, .none, .none, .str "minismt.terms" 314, none, .ref 582, .none, 0⟩, #[]⟩ (by dsimp only [f23_1])) ::
(nat_lit 596, ⟨.type "code", none, .fields #[.str "want_bits" 933, .str "TermBank.want_bits" 934, .str "/claim/cut.py" 935, .int 297 0, .int 3 0, .int 0 0, .int 0 0, .int 3 0, .ref 591, .bool true, .int 181 0, .ref 592, .none, .ref 593, .ref 594, .ref 595, .int 939 0, .int 297 0, .str "/claim/cut.py" 940], #[]⟩) ::
(nat_lit 597, lit _ ⟨.type "function", none, .func ⟨"want_bits", "TermBank.want_bits", f23_3.1.a, .stmts f23_3.1.b, f23_3.1.s, 3, [], .none, .none, .none, .str "minismt.terms" 314, none, .ref 596, .none, 0⟩, #[]⟩ (by dsimp only [f23_3])) ::
(nat_lit 603, ⟨.type "code", none, .fields #[.str "bv_num" 942, .str "TermBank.bv_num" 943, .str "/claim/cut.py" 944, .int 301 0, .int 3 0, .int 0 0, .int 0 0, .int 3 0, .ref 598, .bool true, .int 181 0, .ref 599, .none, .ref 600, .ref 601, .ref 602, .int 949 0, .int 301 0, .str "/claim/cut.py" 950], #[]⟩) ::
(nat_lit 604, lit _ ⟨.type "function", none, .func ⟨"bv_num", "TermBank.bv_num", f23_4.1.a, .stmts f23_4.1.b, f23_4.1.s, 3, [], .none, .none, .none, .str "minismt.terms" 314, none, .ref 603, .none, 0⟩, #[]⟩ (by dsimp only [f23_4])) ::
(nat_lit 624, ⟨.type "code", none, .fields #[.str "concat" 971, .str "TermBank.concat" 972, .str "/claim/cut.py" 973, .int 311 0, .int 3 0, .int 0 0, .int 0 0, .int 3 0, .ref 619, .bool true, .int 181 0, .ref 620, .none, .ref 621, .ref 622, .ref 623, .int 977 0, .int 311 0, .str "/claim/cut.py" 978], #[]⟩) ::
(nat_lit 625, lit _ ⟨.type "function", none, .func ⟨"concat", "TermBank.concat", f23_7.1.a, .stmts f23_7.1.b, f23_7.1.s, 3, [], .none, .none, .none, .str "minismt.terms" 314, none, .ref 624, .none, 0⟩, #[]⟩ (by dsimp only [f23_7])) ::
(nat_lit 631, ⟨.type "code", none, .fields #[.str "extract" 980, .str "TermBank.extract" 981, .str "/claim/cut.py" 982, .int 316 0, .int 4 0, .int 0 0, .int 0 0, .int 3 0, .ref 626, .bool true, .int 181 0, .ref 627, .none, .ref 628, .ref 629, .ref 630, .int 987 0, .int 316 0, .str "/claim/cut.py" 988], #[]⟩) ::
(nat_lit 632, lit _ ⟨.type "function", none, .func ⟨"extract", "TermBank.extract", f23_8.1.a, .stmts f23_8.1.b, f23_8.1.s, 3, [], .none, .none, .none, .str "minismt.terms" 314, none, .ref 631, .none, 0⟩, #[]⟩ (by dsimp only [f23_8])) ::
(nat_lit 638, ⟨.type "code", none, .fields #[.str "zero_extend" 990, .str "TermBank.zero_extend" 991, .str "/claim/cut.py" 992, .int 322 0, .int 3 0, .int 0 0, .int 0 0, .int 3 0, .ref 633, .bool true, .int 181 0, .ref 634, .none, .ref 635, .ref 636, .ref 637, .int 996 0, .int 322 0, .str "/claim/cut.py" 997], #[]⟩) ::
(nat_lit 639, lit _ ⟨.type "function", none, .func ⟨"zero_extend", "TermBank.zero_extend", f23_9.1.a, .stmts f23_9.1.b, f23_9.1.s, 3, [], .none, .none, .none, .str "minismt.terms" 314, none, .ref 638, .none, 0⟩, #[]⟩ (by dsimp only [f23_9])) ::
(nat_lit 645, ⟨.type "code", none, .fields #[.str "sign_extend" 999, .str "TermBank.sign_extend" 1000, .str "/claim/cut.py" 1001, .int 328 0, .int 3 0, .int 0 0, .int 0 0, .int 3 0, .ref 640, .bool true, .int 181 0, .ref 641, .none, .ref 642, .ref 643, .ref 644, .int 1005 0, .int 328 0, .str "/claim/cut.py" 1006], #[]⟩) ::
(nat_lit 646, lit _ ⟨.type "function", none, .func ⟨"sign_extend", "TermBank.sign_extend", f23_10.1.a, .stmts f23_10.1.b, f23_10.1.s, 3, [], .none, .none, .none, .str "minismt.terms" 314, none, .ref 645, .none, 0⟩, #[]⟩ (by dsimp only [f23_10])) ::
(nat_lit 676, ⟨.type "dict", none, .dict #[⟨PyData.keyHash P "__module__", .str "__module__" 904, .str "minismt.terms" 314⟩, ⟨PyData.keyHash P "__firstlineno__", .str "__firstlineno__" 908, .int 277 907⟩, ⟨PyData.keyHash P "__init__", .str "__init__" 916, .ref 576⟩, ⟨PyData.keyHash P "bv_sort", .str "bv_sort" 924, .ref 583⟩, ⟨PyData.keyHash P "find_bv_sort", .str "find_bv_sort" 932, .ref 590⟩, ⟨PyData.keyHash P "want_bits", .str "want_bits" 941, .ref 597⟩, ⟨PyData.keyHash P "bv_num", .str "bv_num" 951, .ref 604⟩, ⟨PyData.keyHash P "bv_one", .str "bv_one" 960, .ref 611⟩, ⟨PyData.keyHash P "bv_two", .str "bv_two" 970, .ref 618⟩, ⟨PyData.keyHash P "concat", .str "concat" 979, .ref 625⟩, ⟨PyData.keyHash P "extract", .str "extract" 989, .ref 632⟩, ⟨PyData.keyHash P "zero_extend", .str "zero_extend" 998, .ref 639⟩, ⟨PyData.keyHash P "sign_extend", .str "sign_extend" 1007, .ref 646⟩, ⟨PyData.keyHash P "want_place", .str "want_place" 1017, .ref 653⟩, ⟨PyData.keyHash P "bit", .str "bit" 1026, .ref 660⟩, ⟨PyData.keyHash P "carry", .str "carry" 1036, .ref 667⟩, ⟨PyData.keyHash P "below", .str "below" 1046, .ref 674⟩, ⟨PyData.keyHash P "__static_attributes__", .str "__static_attributes__" 1048, .ref 675⟩, ⟨PyData.keyHash P "__doc__", .str "__doc__" 1050, .none⟩] 3, #[]⟩) ::
(nat_lit 677, ⟨.type "type", none, .cls ⟨"TermBank", [.ref 558], [.ref 677, .ref 558, .ref 469, .ref 364, .type "object"], 676, "TermBank", true, [], [], false, none, false⟩, #[some (.ref 561), none, some (.str "TermBank" 897), some (.str "TermBank" 905), some (.builtin "object.__new__"), some (.bool true)]⟩) ::
(nat_lit 685, ⟨.type "code", none, .fields #[.str "_law_draw" 1055, .str "_law_draw" 1056, .str "/claim/cut.py" 1057, .int 353 0, .int 2 0, .int 0 0, .int 0 0, .int 3 0, .ref 680, .bool true, .int 181 0, .ref 681, .none, .ref 682, .ref 683, .ref 684, .int 1061 0, .int 353 0, .str "/claim/cut.py" 1062], #[]⟩) ::
(nat_lit 686, lit _ ⟨.type "function", none, .func ⟨"_law_draw", "_law_draw", f25.1.a, .stmts f25.1.b, f25.1.s, 3, [], .none, .none, .none, .str "law_nz0152_01" 1053, none, .ref 685, .none, 0⟩, #[]⟩ (by dsimp only [f25])) ::
(nat_lit 692, ⟨.type "code", none, .fields #[.str "_law_spot" 1064, .str "_law_spot" 1065, .str "/claim/cut.py" 1066, .int 359 0, .int 2 0, .int 0 0, .int 0 0, .int 3 0, .ref 687, .bool true, .int 181 0, .ref 688, .none, .ref 689, .ref 690, .ref 691, .int 1070 0, .int 359 0, .str "/claim/cut.py" 1071], #[]⟩) ::
(nat_lit 693, lit _ ⟨.type "function", none, .func ⟨"_law_spot", "_law_spot", f26.1.a, .stmts f26.1.b, f26.1.s, 3, [], .none, .none, .none, .str "law_nz0152_01" 1053, none, .ref 692, .none, 0⟩, #[]⟩ (by dsimp only [f26])) ::
(nat_lit 697, ⟨.type "code", none, .fields #[.str "_law_some" 1073, .str "_law_some" 1074, .str "/claim/cut.py" 1075, .int 364 0, .int 2 0, .int 0 0, .int 0 0, .int 3 0, .ref 694, .bool true, .int 181 0, .ref 695, .none, .none, .none, .ref 696, .int 1076 0, .int 364 0, .str "/claim/cut.py" 1077], #[]⟩) ::
(nat_lit 698, lit _ ⟨.type "function", none, .func ⟨"_law_some", "_law_some", f27.1.a, .stmts f27.1.b, f27.1.s, 3, [], .none, .none, .none, .str "law_nz0152_01" 1053, none, .ref 697, .none, 0⟩, #[]⟩ (by dsimp only [f27])) ::
(nat_lit 704, ⟨.type "code", none, .fields #[.str "_law_kept" 1079, .str "_law_kept" 1080, .str "/claim/cut.py" 1081, .int 367 0, .int 3 0, .int 0 0, .int 0 0, .int 3 0, .ref 699, .bool true, .int 181 0, .ref 700, .none, .ref 701, .ref 702, .ref 703, .int 1089 0, .int 367 0, .str "/claim/cut.py" 1090], #[]⟩) ::
(nat_lit 705, lit _ ⟨.type "function", none, .func ⟨"_law_kept", "_law_kept", f28.1.a, .stmts f28.1.b, f28.1.s, 3, [], .none, .none, .none, .str "law_nz0152_01" 1053, none, .ref 704, .none, 0⟩, #[]⟩ (by dsimp only [f28])) ::
(nat_lit 711, ⟨.type "code", none, .fields #[.str "_law_reckoned" 1092, .str "_law_reckoned" 1093, .str "/claim/cut.py" 1094, .int 378 0, .int 4 0, .int 0 0, .int 0 0, .int 3 0, .ref 706, .bool true, .int 181 0, .ref 707, .none, .ref 708, .ref 709, .ref 710, .int 1100 0, .int 378 0, .str "/claim/cut.py" 1101], #[]⟩) ::
(nat_lit 712, lit _ ⟨.type "function", none, .func ⟨"_law_reckoned", "_law_reckoned", f29.1.a, .stmts f29.1.b, f29.1.s, 3, [], .none, .none, .none, .str "law_nz0152_01" 1053, none, .ref 711, .none, 0⟩, #[]⟩ (by dsimp only [f29])) ::
(nat_lit 718, ⟨.type "code", none, .fields #[.str "_law_listed" 1103, .str "_law_listed" 1104, .str "/claim/cut.py" 1105, .int 385 0, .int 3 0, .int 0 0, .int 0 0, .int 3 0, .ref 713, .bool true, .int 181 0, .ref 714, .none, .ref 715, .ref 716, .ref 717, .int 1110 0, .int 385 0, .str "/claim/cut.py" 1111], #[]⟩) ::
(nat_lit 719, lit _ ⟨.type "function", none, .func ⟨"_law_listed", "_law_listed", f30.1.a, .stmts f30.1.b, f30.1.s, 3, [], .none, .none, .none, .str "law_nz0152_01" 1053, none, .ref 718, .none, 0⟩, #[]⟩ (by dsimp only [f30])) ::
(nat_lit 723, ⟨.type "code", none, .fields #[.str "_law_due" 1113, .str "_law_due" 1114, .str "/claim/cut.py" 1115, .int 392 0, .int 3 0, .int 0 0, .int 0 0, .int 3 0, .ref 720, .bool true, .int 181 0, .ref 721, .none, .none, .none, .ref 722, .int 1116 0, .int 392 0, .str "/claim/cut.py" 1117], #[]⟩) ::
(nat_lit 724, lit _ ⟨.type "function", none, .func ⟨"_law_due", "_law_due", f31.1.a, .stmts f31.1.b, f31.1.s, 3, [], .none, .none, .none, .str "law_nz0152_01" 1053, none, .ref 723, .none, 0⟩, #[]⟩ (by dsimp only [f31])) ::
(nat_lit 730, ⟨.type "code", none, .fields #[.str "_law_asked" 1119, .str "_law_asked" 1120, .str "/claim/cut.py" 1121, .int 402 0, .int 4 0, .int 0 0, .int 0 0, .int 3 0, .ref 725, .bool true, .int 181 0, .ref 726, .none, .ref 727, .ref 728, .ref 729, .int 1127 0, .int 402 0, .str "/claim/cut.py" 1128], #[]⟩) ::
(nat_lit 731, lit _ ⟨.type "function", none, .func ⟨"_law_asked", "_law_asked", f32.1.a, .stmts f32.1.b, f32.1.s, 3, [], .none, .none, .none, .str "law_nz0152_01" 1053, none, .ref 730, .none, 0⟩, #[]⟩ (by dsimp only [f32])) ::
(nat_lit 735, ⟨.type "code", none, .fields #[.str "_law_step" 1130, .str "_law_step" 1131, .str "/claim/cut.py" 1132, .int 414 0, .int 3 0, .int 0 0, .int 0 0, .int 3 0, .ref 732, .bool true, .int 181 0, .ref 733, .none, .none, .none, .ref 734, .int 1133 0, .int 414 0, .str "/claim/cut.py" 1134], #[]⟩) ::
(nat_lit 736, lit _ ⟨.type "function", none, .func ⟨"_law_step", "_law_step", f33.1.a, .stmts f33.1.b, f33.1.s, 3, [], .none, .none, .none, .str "law_nz0152_01" 1053, none, .ref 735, .none, 0⟩, #[]⟩ (by dsimp only [f33])) ::
(nat_lit 740, ⟨.type "code", none, .fields #[.str "law" 1136, .str "law" 1137, .str "/claim/cut.py" 1138, .int 439 0, .int 1 0, .int 0 0, .int 0 0, .int 3 0, .ref 737, .bool true, .int 181 0, .ref 738, .none, .none, .none, .ref 739, .int 1139 0, .int 439 0, .str "/claim/cut.py" 1140], #[]⟩) ::
(nat_lit 741, lit _ ⟨.type "function", none, .func ⟨"law", "law", f34.1.a, .stmts f34.1.b, f34.1.s, 3, [], .none, .none, .none, .str "law_nz0152_01" 1053, none, .ref 740, .none, 0⟩, #[]⟩ (by dsimp only [f34])) :: []
noncomputable def view : Program := PySem.W.view PySem.Challenge.pw_nz0152_01 [0, 2, 3, 4, 6, 7, 8, 9, 11, 12, 13, 14, 15, 16, 17, 18, 19, 20, 21, 22, 23, 25, 26, 27, 28, 29, 30, 31, 32, 33, 34]
end
section
open PySem PySem.W PySem.Spec PySem.Calls PyProof.Rows
/-- what lay at no address of the list still lies there -/
noncomputable def Keep (as : List Addr) (h h' : Heap) : Prop := ∀ b o, b ∉ as → h.get? b = some o → h'.get? b = some o
theorem Keep.refl (as : List Addr) (h : Heap) : Keep as h h := fun _ _ _ e => e
theorem Keep.trans {as : List Addr} {h h' h'' : Heap} (x : Keep as h h') (y : Keep as h' h'') : Keep as h h'' := fun b o n e => y b o n (x b o n e)
theorem Keep.mono {as bs : List Addr} {h h' : Heap} (x : Keep as h h') (s : ∀ a ∈ as, a ∈ bs) : Keep bs h h' := fun b o n e => x b o (fun q => n (s _ q)) e
section
variable {prog : Program} {w : World} {A A₀ : Around} {s : Shared} {K : Frag} {L : Addr} {h₀ base : Heap} {m mg mb : Str → Option Value} {news : List (Addr × Obj)} {p : Program} {loose : List Str} {mean : ExcName → Option Value}
/-- a def's call: the ledger hidden, all else ground; behind it the ground still stands -/
theorem enterK {env : Env} {outer : List Env} {R : Result → Shared → Prop} {name qual : Str} {params : Arguments} {body : List Stmt} {scope : Scope} {dV kV doc pm cdv ct oc : Value} {an od : Option Addr} {osl : Array (Option Value)} {f : Addr} {args : Args} {binds : List (Str × Value)}
    (B : Below A₀ base outer h₀) (F : Fr h₀ L s.heap m) (X₀ : K.In h₀) (N : News h₀ L s.heap news) (T : Top p loose mean mg mb h₀) (hA : A.frames = some (env :: outer)) (hf : env.frame = some L) (hke : env.scope.kind = .function)
    (ho : K.lookup f = some ⟨oc, od, .func (fnOf name qual params body scope dV kV doc pm an cdv ct), osl⟩) (hcd : codeIn K cdv qual = true) (hroom : A.depth < recursionLimit)
    (hbind : BindsTo s (fnOf name qual params body scope dV kV doc pm an cdv ct) args binds) (hloc : ∀ y ∈ binds, scope.names.lookup y.1 = some .local)
    (h : ∀ g L' h₁, Fr h₀ L g m → Fr g L' h₁ (fun y => binds.reverse.lookup y) → News g L' h₁ news → Below A base (env :: outer) g → K.In g → Top p loose mean mg mb g → (∀ p ∈ news, p.1 < L') → (∀ b o, b ∉ news.map (·.1) → s.heap.get? b = some o → g.get? b = some o) →
      wpAny (model prog w) (A.deeper (envOf qual scope L' f cdv)) (execs body (envOf qual scope L' f cdv))
        (fun fl s' => LeaveK h₀ L m g (fun r s' => Keep (news.map (·.1)) s.heap s'.heap → R r s') (match fl with | .ret v => v | _ => .none) s')
        (fun e s' => wpAny (model prog w) (A.deeper (envOf qual scope L' f cdv)) (leaving (envOf qual scope L' f cdv) e) (fun _ s'' => R (.error e) s'') (fun e' s'' => R (.error e') s'') s')
        { s with heap := h₁, toks := s.toks + binds.length })
    (hco : scope.isCoroutine = false) (hgen : scope.isGenerator = false) (hk : scope.kind = .function)
    (hcell : ∀ x ∈ scope.names, x.2 ≠ .cell) : codeAny (model prog w) A (.call (.ref f) args) R s := by
  obtain ⟨FG, BG, st, lv⟩ := groundX (R := fun r s' => Keep (news.map (·.1)) s.heap s'.heap → R r s') B F N hA hf hke
  refine codeAny_call_def (fd := fnOf name qual params body scope dV kV doc pm an cdv ct) (body := body) (binds := binds) hroom ((X₀.keeps F.keep) _ _ ho) rfl (T.nolimit.keeps F.keep) (codeRec_of (X₀.keeps F.keep) hcd) rfl hbind hcell hloc (fun h₁ hns hk₁ => ?_) hco hgen hk
  refine wpAny_mono (h _ s.heap.objs.size h₁ FG ⟨hns, fun b o e => hk₁ b o (of_hideAll _ e), Nat.le_of_eq (hideAll_size _ _)⟩
    (fun p hp => ⟨hk₁ _ _ (N p hp).1, Nat.ne_of_lt (Heap.lt_size (N p hp).1), hideAll_none _ (List.mem_map_of_mem hp)⟩) BG (X₀.keeps st) (T.keeps st) (fun p hp => Heap.lt_size (N p hp).1) (fun b o hb e => hideAll_get _ e hb)) (fun fl s' hl => ?_) fun _ _ y => y
  have hl' := lv _ _ hl
  obtain ⟨L', m', news', F', _, _⟩ := hl
  exact hl' fun b o hb e => F'.keep b o (hideAll_get _ e hb)
end
end
section
open PySem PySem.W
section
variable {M : Model} {A : Around} {E : Value → Shared → Prop} {h : Heap} {g : Array GenState} {d : Drawn} {t : Nat} {os : OsState}
variable {nm q : Str} {C N : Addr} {bs bm : List Value} {hdct : Bool} {sn : List Str} {sub : List Value} {ab : Bool} {col : Option Bool} {dd : Option Addr} {k0 k1 k2 k3 k5 : Option Value}
/-- what the making asks of a class's tail -/
structure TailOk (bm : List Value) : Prop where
  exc : bm.contains (.type "Exception") = true
  base : bm.contains (.type "BaseException") = true
  attr : bm.contains (.type "AttributeError") = false
  name : bm.contains (.type "NameError") = false
theorem x_check_new (T : TailOk bm) {rest : List Value} {Q : Unit → Shared → Prop} (hC : h.get? C = some (excClassObj nm q C N bs bm hdct sn sub ab col dd k0 k1 k2 k3 k5 "Exception.__new__"))
    (hq : Q () ⟨h, g, d, t, os⟩) : wpAny M A (checkBuiltinCall "Exception.__new__" ⟨.ref C :: rest, []⟩) Q E ⟨h, g, d, t, os⟩ := by
  have F := PySem.F.excBase_Exception
  have hcont : (Value.ref C :: bm).contains (.type "Exception") = true := by rw [List.contains_cons, T.exc, Bool.or_true]
  have hstar := F.noStar
  simp only [checkBuiltinCall, F.newKind, F.newSplit, F.newRow]
  repeat (first | with_reducible refine wpAny_loadPart_at hC ?_ | (with_reducible refine wpAny_isSubtype_exc hC ?_; rw [hcont]) | with_reducible refine wpAny_staticBase_exc hC ?_ | with_reducible refine wpAny_madeBy_exc hC ?_ | simp only [bne_self_eq_false, Bool.false_eq_true, if_false] | wp_step)
  exact hq
end
section
variable {prog : Program} {w : World} {A : Around} {R : Result → Shared → Prop} {E : Value → Shared → Prop} {h : Heap} {g : Array GenState} {d : Drawn} {t : Nat} {os : OsState}
variable {nm q : Str} {C N : Addr} {bs bm : List Value} {hdct : Bool} {sn : List Str} {sub : List Value} {ab : Bool} {col : Option Bool} {dd : Option Addr} {k0 k1 k2 k3 k5 : Option Value}
noncomputable abbrev bareExc (C t : Addr) : Obj := { cls := .ref C, data := .fields #[.ref t, .none, .none, .none, .bool false, .none] }
noncomputable abbrev tupO (vs : List Value) : Obj := { cls := .type "tuple", data := .seq vs.toArray }
theorem x_new (T : TailOk bm) {rest : List Value} (hC : h.get? C = some (excClassObj nm q C N bs bm hdct sn sub ab col dd k0 k1 k2 k3 k5 "Exception.__new__"))
    (hq : R (.ok (.ret (.ref (h.objs.size + 1)))) ⟨(h.push (tupO rest)).push (bareExc C h.objs.size), g, d, t, os⟩) (hrest : rest.length ≤ sizeLine := by size_fits) :
    codeAny (model prog w) A (.builtin "Exception.__new__" ⟨.ref C :: rest, []⟩) R ⟨h, g, d, t, os⟩ := by
  have F := PySem.F.excBase_Exception
  have hends := F.ends
  have hcB : (Value.ref C :: bm).contains (.type "Exception") = true := by rw [List.contains_cons, T.exc, Bool.or_true]
  have hcA : (Value.ref C :: bm).contains (.type "AttributeError") = false := by rw [List.contains_cons, T.attr]; rfl
  have hcN : (Value.ref C :: bm).contains (.type "NameError") = false := by rw [List.contains_cons, T.name]; rfl
  refine codeAny_builtinAt F.entry ?_
  unfold Builtin.«BaseException.__new__»
  refine wpAt_bind ?_
  show wpAt _ _ _ (stack >>= _) _ _ _
  refine wpAt_bind (wpAt_stack fun p below => wpAt_of_wpAny ?_)
  wp_walk
  refine wpAt_of_wpAny ?_
  rw [F.owner]
  repeat (first | with_reducible refine wpAny_madeHere_exc F.canon hC ?_ | with_reducible refine wpAny_loadPart_at hC ?_ | (with_reducible refine wpAny_isSubtype_exc hC ?_; first | rw [hcB] | rw [hcA] | rw [hcN]) | wp_step)
  show R _ _
  rw [Heap.size_push]
  exact hq
theorem x_make {K : Frag} {fI : Addr} (T : TailOk bm) {rest : List Value} (X : K.In h) (hC : h.get? C = some (excClassObj nm q C N bs bm hdct sn sub ab col dd k0 k1 k2 k3 k5 "Exception.__new__"))
    (hcall : specialIn K (.ref C) "__call__" = some (some (.builtin "type.__call__"))) (htyp : instIn K (.ref C) (.type "type") = some true)
    (hi : findIn K (.ref C) "__init__" = some (some (.ref fI))) (hf : typeIn K (.ref fI) = some (.type "function"))
    (hq : codeAny (model prog w) (A.under (.builtin "type.__call__" ⟨.ref C :: rest, []⟩)) (.call (.ref fI) ⟨.ref (h.objs.size + 1) :: rest, []⟩) (InitBack (h.objs.size + 1) R) ⟨(h.push (tupO rest)).push (bareExc C h.objs.size), g, d, t, os⟩)
    (hrest : rest.length ≤ sizeLine := by size_fits) :
    codeAny (model prog w) A (.call (.ref C) ⟨rest, []⟩) R ⟨h, g, d, t, os⟩ := by
  have call := looks_specialIn (M := model prog w) X hcall
  have typ := looks_instIn (M := model prog w) X htyp
  have hiL := looks_findIn (M := model prog w) X hi
  refine codeAny_of_tree ?_
  show wpAny _ _ (callAny (.ref C) _) _ _ _
  refine nd_load hC ?_
  show wpAny _ _ (callAny.viaDunder (.ref C) _) _ _ _
  unfold callAny.viaDunder
  refine wpAny_bind (call.at ?_)
  dsimp only
  rw [tc_bind]
  refine wpAny_bind (wpAny_pure (wpAny_bind (wpAny_pure ?_)))
  refine wpAny_pure (a := Fin.again (.call (.builtin "type.__call__") ⟨.ref C :: rest, []⟩)) (And.intro rfl ?_)
  refine codeAny_call_builtin_at (Code.quiet_builtin _ (by decide +kernel)) entry_typeCall ?_
  with_reducible refine check_slot tc_kind tc_split typ (tc_args _ _ _) ?_
  unfold Builtin.«type.__call__»
  repeat (first | with_reducible refine wpAny_loadPart_at hC ?_ | with_reducible refine wpAny_madeBy_exc hC ?_ | wp_step)
  refine codeAny_call_builtin_code (Code.quiet_builtin _ PySem.F.excBase_Exception.quiet) (x_check_new T hC ?_)
  refine x_new T hC ?_ hrest
  show wpAny _ _ _ _ _ _
  have k : ∀ b o, h.get? b = some o → ((h.push (tupO rest)).push (bareExc C h.objs.size)).get? b = some o := fun b o e => Heap.get?_push_of_some _ (Heap.get?_push_of_some _ e)
  have hx : ((h.push (tupO rest)).push (bareExc C h.objs.size)).get? (h.objs.size + 1) = some (bareExc C h.objs.size) := by heap_get
  have hC₁ := k _ _ hC
  have hcC : (Value.ref C :: bm).contains (.ref C) = true := by simp
  have t1 : Looks (model prog w) ((h.push (tupO rest)).push (bareExc C h.objs.size)) (typeOf (.ref (h.objs.size + 1))) (.ref C) := (Looks.ld hx).andThen .now
  have i1 := hiL.keeps k
  have b1 := (bind_fn (M := model prog w) X (.ref (h.objs.size + 1)) hf).keeps k
  unfold isInstance callSpecial? specialOf
  refine wpAny_bind (wpAny_bind (t1.at ?_))
  refine wpAny_isSubtype_exc hC₁ ?_
  rw [hcC]
  repeat (first | with_reducible refine wpAny_call ?_ | lk)
  refine codeAny_mono hq fun r s' z => ?_
  rcases r with e | (v | _ | _ | _) <;> first | exact z | exact z.elim | skip
  obtain ⟨rfl, z⟩ := z
  exact wpAny_pure (wpAny_pure z)
end
end
section
open PySem PySem.W
noncomputable abbrev xinit : Value := .builtin "Exception.__init__"
theorem x_ty : typeOf xinit = pure (.type "wrapper_descriptor") := by
  show builtinType "Exception.__init__" = _
  rw [builtinType_eq_fast]; exact of_pureOf (by kernel_rfl)
theorem slot_wd_get : Slot "wrapper_descriptor" "__get__" "wrapper_descriptor.__get__" := .of (owner := "wrapper_descriptor") (n := "__get__") (by rw [typeLookup_type, builtinLookup_eq_fast]; kernel_rfl) (by decide +kernel) (by decide +kernel) (by decide +kernel)
  (by first | exact .inl (by decide +kernel) | exact .inr (by decide +kernel)) (by rw [isSubtype_type]; kernel_rfl)
theorem entry_wd_get : entryFor table "wrapper_descriptor.__get__" = some Builtin.«wrapper_descriptor.__get__» := entryFor_of_tree (by kernel_rfl)
theorem args_wd_get (a b c : Value) : argsOk "wrapper_descriptor.__get__" ⟨[a, b, c], []⟩ := by unfold argsOk; kernel_rfl
section
variable {prog : Program} {w : World} {M : Model} {A : Around} {E : Value → Shared → Prop} {h : Heap} {g : Array GenState} {d : Drawn} {t : Nat} {os : OsState}
theorem own_ei : ".".intercalate ("Exception.__init__".cutAt '.').dropLast = "Exception" := by kernel_rfl
theorem x_wd_get {x C : Addr} {ox : Obj} {Q : PySem.Fin → Shared → Prop} (hx : h.get? x = some ox) (hc : ox.cls = .ref C) (hi : Looks (model prog w) h (isSubtype (.ref C) (.type "Exception")) true)
    (hq : Q (.done (.ret (.ref h.objs.size))) ⟨h.push { cls := .type "method-wrapper", data := .fields #[xinit, .ref x] }, g, d, t, os⟩) :
    wpAny (model prog w) A (Builtin.«wrapper_descriptor.__get__» ⟨[xinit, .ref x, .ref C], []⟩) Q E ⟨h, g, d, t, os⟩ := by
  obtain ⟨oc, od, odt, osl⟩ := ox
  obtain rfl : oc = .ref C := hc
  have hi' : Looks (model prog w) h (isSubtype (.ref C) (.type (".".intercalate ("Exception.__init__".cutAt '.').dropLast))) true := by rw [own_ei]; exact hi
  unfold Builtin.«wrapper_descriptor.__get__»
  repeat lk
  exact hq
theorem mw_canon : (Manifest.canonical "super.__getattribute__" != "object.__getattribute__") = true := PySem.F.ks_canon_super_ga
theorem x_super_ga {so D x C : Addr} {l₀ l : List Value} {K : Frag} {tk : Tok} {ox : Obj} {Q : PySem.Fin → Shared → Prop}
    (hso : h.get? so = some { cls := .type "super", dict := none, data := .fields #[.ref D, .ref x, .ref C], slots := #[] }) (hno : Looks (model prog w) h (opaqueClassAbove (.ref C)) none)
    (hC : Looks (model prog w) h (mroOf (.ref C)) l₀) (hl : (l₀.dropWhile (· != .ref D)).drop 1 = l) (X : K.In h)
    (hf : alongIn K "__init__" l = some (some xinit)) (hx : h.get? x = some ox) (hc : ox.cls = .ref C) (hi : Looks (model prog w) h (isSubtype (.ref C) (.type "Exception")) true) (hxC : x ≠ C)
    (hq : Q (.done (.ret (.ref h.objs.size))) ⟨h.push { cls := .type "method-wrapper", data := .fields #[xinit, .ref x] }, g, d, t, os⟩) :
    wpAny (model prog w) A (Builtin.«super.__getattribute__» ⟨[.ref so, .str "__init__" tk], []⟩) Q E ⟨h, g, d, t, os⟩ := by
  have hlk := slot_wd_get.lookup
  have hne : (Value.ref x == Value.ref C) = false := by simp [hxC]
  have hTf : ∀ t', (⟨h, g, d, t', os⟩ : Shared).TypeIs xinit "wrapper_descriptor" := fun _ => x_ty
  have hdt : ({ cls := .type "super", dict := none, data := .fields #[.ref D, .ref x, .ref C], slots := #[] } : Obj).data = .fields #[.ref D, .ref x, .ref C] := rfl
  have f0 : (#[.ref D, .ref x, .ref C] : Array Value)[0]? = some (.ref D) := rfl
  have f1 : (#[.ref D, .ref x, .ref C] : Array Value)[1]? = some (.ref x) := rfl
  have f2 : (#[.ref D, .ref x, .ref C] : Array Value)[2]? = some (.ref C) := rfl
  have hn : ((Str.ofString "__init__") == ("__class__" : Str)) = false := by decide +kernel
  have hty := x_ty
  unfold Builtin.«super.__getattribute__»
  repeat (first
    | (with_reducible refine wpAny_field hso hdt f0 ?_) | (with_reducible refine wpAny_field hso hdt f1 ?_) | (with_reducible refine wpAny_field hso hdt f2 ?_)
    | (with_reducible refine ks_wpAny_notOpaque hno ?_)
    | (with_reducible refine Looks.at hC ?_; rw [hl])
    | (with_reducible refine ks_forIn_along X (fun _ _ => rfl) rfl ?_ hf)
    | (with_reducible refine wpAny_of_eq x_ty ?_)
    | (with_reducible refine wpAny_call_entry slot_wd_get (hTf _) entry_wd_get (x_wd_get hx hc hi ?_) (args_wd_get _ _ _))
    | (with_reducible refine ⟨_, rfl, ?_⟩)
    | (simp only [hn, hne, Bool.or_false, Bool.false_eq_true, if_false])
    | wp_step
    | dsimp only)
  all_goals exact hq
noncomputable abbrev mwObj (x : Addr) : Obj := { cls := .type "method-wrapper", data := .fields #[xinit, .ref x] }
theorem x_getMethod_super {so D x C : Addr} {l₀ l : List Value} {K : Frag} {ox : Obj} {pl : Sem Bool} {Q : Value × List Value → Shared → Prop}
    (hso : h.get? so = some { cls := .type "super", dict := none, data := .fields #[.ref D, .ref x, .ref C], slots := #[] }) (hno : Looks (model prog w) h (opaqueClassAbove (.ref C)) none)
    (hC : Looks (model prog w) h (mroOf (.ref C)) l₀) (hl : (l₀.dropWhile (· != .ref D)).drop 1 = l) (X : K.In h)
    (hf : alongIn K "__init__" l = some (some xinit)) (hx : h.get? x = some ox) (hc : ox.cls = .ref C) (hi : Looks (model prog w) h (isSubtype (.ref C) (.type "Exception")) true) (hxC : x ≠ C)
    (hq : Q (.ref h.objs.size, []) ⟨h.push (mwObj x), g, d, t + 1, os⟩) :
    wpAny (model prog w) A (getMethod (.ref so) "__init__" pl) Q E ⟨h, g, d, t, os⟩ := by
  have hlk := PySem.F.ks_slot_super_ga.lookup
  have hcan := PySem.F.ks_canon_super_ga
  have hT : ∀ t', (⟨h, g, d, t', os⟩ : Shared).TypeIs (.ref so) "super" := fun _ => ⟨_, hso, rfl⟩
  unfold getMethod
  refine wpAny_bind (wpAny_specialOf (hT _) hlk ?_)
  show wpAny _ _ (if (Manifest.canonical "super.__getattribute__" != "object.__getattribute__") = true then _ else _) _ _ _
  rw [if_pos hcan]
  unfold getAttr getAttrBy
  refine wpAny_bind (wpAny_bind (wpAny_mkText (wpAny_holding (wpAny_bind (wpAny_typeOf (hT _) (wpAny_bind (wpAny_of_eq hlk ?_)))))))
  show wpAny _ _ (getAttrByItsOwn (.ref so) (.str "__init__" t) (.type "super") (.builtin "super.__getattribute__") true false) _ _ _
  unfold getAttrByItsOwn hookBefore callGetattribute boundAndCalled
  refine wpAny_bind (wpAny_of_eq (show (if onTheHeap (.type "super") then typeLookup (.type "super") "__getattr__" else pure none) = pure none from rfl) ?_)
  refine wpAny_bind (wpAny_attempt (wpAny_holding ?_))
  show wpAny _ _ (bindSpecial (.builtin "super.__getattribute__") (.ref so) >>= _) _ _ _
  refine wpAny_bind (wpAny_of_eq (PySem.F.ks_slot_super_ga.bind _) ?_)
  refine wpAny_mono (Q := fun v s' => v = .ref h.objs.size ∧ s' = ⟨h.push (mwObj x), g, d, t + 1, os⟩) (E := fun _ _ => False)
    (wpAny_call_entry PySem.F.ks_slot_super_ga (hT _) PySem.F.ks_entry_super_ga (x_super_ga hso hno hC hl X hf hx hc hi hxC ⟨_, rfl, rfl, rfl⟩) (PySem.F.ks_gaArgs_super _ _)) (fun v s' hv => ?_) fun _ _ z => z.elim
  obtain ⟨rfl, rfl⟩ := hv
  exact wpAny_pure (wpAny_pure hq)
theorem x_mw_call {q x C : Addr} {t0 : Addr} {msg : Value} {Q : Value → Shared → Prop}
    {nm qn : Str} {N : Addr} {bs bm : List Value} {hdct : Bool} {sn : List Str} {sub : List Value} {ab : Bool} {col : Option Bool} {dd : Option Addr} {k0 k1 k2 k3 k5 : Option Value} {newId : String}
    (hq0 : h.get? q = some (mwObj x)) (hx : h.get? x = some (bareExc C t0)) (hC : h.get? C = some (excClassObj nm qn C N bs bm hdct sn sub ab col dd k0 k1 k2 k3 k5 newId))
    (hq : Q .none ⟨(h.push (tupO [msg])).update x (Obj.mapFields (·.setIfInBounds 0 (.ref h.objs.size))), g, d, t, os⟩) :
    wpAny (model prog w) A (call (.ref q) [msg] []) Q E ⟨h, g, d, t, os⟩ := by
  have FX := PySem.F.excBase_Exception
  refine wpAny_call (codeAny_of_tree ?_)
  show wpAny _ _ (callAny (.ref q) _) _ _ _
  refine nd_load hq0 ?_
  show wpAny _ _ (checkBoundCall "Exception.__init__" ⟨[.ref x, msg], []⟩ >>= fun _ => again (.builtin "Exception.__init__" ⟨[.ref x, msg], []⟩)) _ _ _
  have hchk : ∀ {M : Model} {A : Around} {E : Value → Shared → Prop} {Q : Unit → Shared → Prop}, Q () ⟨h, g, d, t, os⟩ → wpAny M A (checkBoundCall "Exception.__init__" ⟨[.ref x, msg], []⟩) Q E ⟨h, g, d, t, os⟩ := by
    intro M A E Q hQ
    have hshort := FX.noStar
    simp only [checkBoundCall, FX.initKind, FX.initRow]
    repeat (first | with_reducible refine wpAny_loadPart_at hx ?_ | with_reducible refine wpAny_loadPart_at hC ?_ | wp_step)
    exact hQ
  refine wpAny_bind (hchk (wpAny_pure ⟨Code.quiet_builtin _ (by decide +kernel), ?_⟩))
  refine codeAny_builtin FX.initEntry ?_
  unfold Builtin.«BaseException.__init__»
  wp_walk
  exact hq
end
end
section
open PySem PySem.W PySem.Builtin.ObjectAttr
section
variable {prog : Program} {w : World} {A : Around} {E : Value → Shared → Prop} {h : Heap} {g : Array GenState} {d : Drawn} {t : Nat} {os : OsState}
variable {K : Frag} {x C : Addr} {cd : ClassData} {name : Str} {v : Value} {vs : Array Value}
noncomputable abbrev fullExc (C dx : Addr) (vs : Array Value) : Obj := { cls := .ref C, dict := some dx, data := .fields vs }
noncomputable abbrev dictlessExc (C : Addr) (vs : Array Value) : Obj := { cls := .ref C, data := .fields vs }
theorem x_osa {tk : Tok} {R : Result → Shared → Prop} (X : K.In h) (hx : h.get? x = some (dictlessExc C vs)) (hc : clsIn K C = some cd) (hne : cd.mro.isEmpty = false) (hob : cd.mro.contains (.type "object") = true)
    (hpass : ∀ self, refuseLoop self "__setattr__" cd.mro = pure ()) (ht : takerIn K C name = some none) (hh : cd.hasDict = true)
    (hq : ∀ h' tk', h'.get? x = some (fullExc C h.objs.size vs) → (∀ b o, b ≠ x → h.get? b = some o → h'.get? b = some o) → R (.ok (.ret .none)) ⟨h', g, d, tk', os⟩) :
    codeAny (model prog w) A (.call (.builtin "object.__setattr__") ⟨[.ref x, .str name tk, v], []⟩) R ⟨h, g, d, t, os⟩ := by
  have SF := PySem.F.store_object
  have I : InstAt h x (dictlessExc C vs) C none := ⟨hx, rfl, rfl, trivial⟩
  have sub : Looks (model prog w) h (isInstance (.ref x) (.type "object")) true := I.type.andThen (looks_mroIn X (by unfold mroIn; rw [hc, Option.bind_some, if_neg (by rw [hne]; decide), hob]))
  refine codeAny_call_builtin SF.slot.plain SF.entry (@check_slot (model prog w) _ _ ⟨h, g, d, t, os⟩ "object.__setattr__" "object" "__setattr__" (.ref x) [.str name tk, v] [] _ SF.kind SF.split sub (SF.args (.ref x) (.str name tk) v) ?_)
  obtain ⟨attr, ha, hr⟩ := Option.bind_eq_some_iff.mp ht
  have hm : Looks (model prog w) h (mroOf (.ref C)) cd.mro := (looks_clsIn X hc).andThen .now
  have L3 : Looks (model prog w) h (storeTaker? attr) none := by
    cases attr with
    | none => exact .now
    | some a =>
      obtain ⟨b, hb, e⟩ := Option.map_eq_some_iff.mp hr
      refine (looks_takesIn X hb).andThen ?_
      cases b <;> first | exact .now | cases e
  rw [osa_eq, refuse_eq]
  refine wpAny_bind (wpAny_bind (I.type.here (wpAny_bind (hm.here ?_))))
  rw [hpass]
  refine wpAny_pure (wpAny_bind (I.type.here (wpAny_bind ((looks_findIn X ha).here (wpAny_bind (L3.here ?_))))))
  have hcl := looks_clsIn (M := model prog w) X hc
  have hx₁ : (h.push { cls := .type "dict", data := .dict #[] }).get? x = some (dictlessExc C vs) := Heap.get?_push_of_some _ hx
  have hxs : x ≠ h.objs.size := Nat.ne_of_lt (Heap.lt_size hx)
  refine wpAny_bind (wpAny_pure (wpAny_bind (wpAny_bind (wpAny_loadPart hx (wpAny_bind (hcl.here ?_))))))
  rw [hh]
  show wpAny _ _ (alloc { cls := .type "dict", data := .dict #[] } >>= _) _ _ _
  refine wpAny_bind (wpAny_alloc' (wpAny_bind (wpAny_update' hx₁ (wpAny_pure ?_))))
  have hgd : ((h.push { cls := .type "dict", data := .dict #[] }).update x fun o => { cls := o.cls, dict := some h.objs.size, data := o.data, slots := o.slots }).get? h.objs.size
      = some { cls := .type "dict", data := .dict #[] } :=
    (Heap.get?_update_ne _ _ _ _ hxs.symm).trans (Heap.get?_push_at rfl rfl)
  have hnd : ((h.push { cls := .type "dict", data := .dict #[] }).update x fun o => { cls := o.cls, dict := some h.objs.size, data := o.data, slots := o.slots }).Ns h.objs.size (fun _ => none) :=
    ⟨_, #[], _, hgd, rfl, fun e he => absurd he (by simp), fun _ => rfl⟩
  show wpAny _ _ (storeInDict h.objs.size (.str name tk) name v) _ _ _
  unfold storeInDict newKeyGuard
  refine wpAny_bind (wpAny_pure (wpAny_bind (wpAny_nsSet1 (Heap.Ns1.of_empty hnd) fun h' hn' hs => ?_)))
  obtain ⟨oD, esD, epD, hoD, hdD, hcD⟩ := hn'.count (Within.cons name v Within.nil)
  refine wpAny_bind (wpAny_lookBehind hoD (by rw [hdD]; exact pastItsLine_dict (Nat.le_trans hcD (by rw [List.length_cons, List.length_nil, sizeLine_eq]; omega))) ?_)
  wp_walk
  refine hq h' _ ((hs.2 x hxs).trans (Heap.get?_update_self _ hx₁ rfl)) fun b o hbx hb => ?_
  exact (hs.2 b (Nat.ne_of_lt (Heap.lt_size hb))).trans ((Heap.get?_update_ne _ _ _ _ hbx).trans (Heap.get?_push_of_some _ hb))
theorem x_set {Q : Unit → Shared → Prop} (X : K.In h) (hx : h.get? x = some (dictlessExc C vs)) (hc : clsIn K C = some cd) (hne : cd.mro.isEmpty = false) (hob : cd.mro.contains (.type "object") = true)
    (hpass : ∀ self, refuseLoop self "__setattr__" cd.mro = pure ()) (ht : takerIn K C name = some none) (hh : cd.hasDict = true) (hs : findIn K (.ref C) "__setattr__" = some (some (.builtin "object.__setattr__")))
    (hq : ∀ h' tk', h'.get? x = some (fullExc C h.objs.size vs) → (∀ b o, b ≠ x → h.get? b = some o → h'.get? b = some o) → Q () ⟨h', g, d, tk', os⟩) :
    wpAny (model prog w) A (setAttr (.ref x) name v) Q E ⟨h, g, d, t, os⟩ :=
  set_plain (s := ⟨h, g, d, t, os⟩) (od := none) X ⟨hx, rfl, rfl, trivial⟩ hs (x_osa X hx hc hne hob hpass ht hh hq)
end
end
section
open PySem PySem.W PySem.Calls PyProof.Rows
theorem fill : (∀ P, heap P = heap P) ∧ PySem.Challenge.rw_nz0152_01 = PySem.Challenge.rw_nz0152_01 := by
  k_fill
  exact ⟨fun _ => rfl, rfl⟩
/-- a new object of an own exception class; the old heap stands -/
structure MadeD (h h' : Heap) (e : Addr) (cls : Value) (args : List Value) : Prop where
  keeps : ∀ b o, h.get? b = some o → h'.get? b = some o
  new : h.get? e = none
  there : ∃ t dx vs, h'.get? e = some { cls := cls, dict := some dx, data := .fields vs } ∧ vs[0]? = some (.ref t) ∧ vs[1]? = some .none ∧ h.get? t = none ∧ h'.get? t = some (tupO args)
section
variable {prog : Program} {w : World} {A A₀ : Around} {s : Shared} {K : Frag} {L : Addr} {h₀ base : Heap} {m mg mb : Str → Option Value} {news : List (Addr × Obj)} {p : Program} {loose : List Str} {mean : ExcName → Option Value}
theorem enterSuper {env : Env} {outer : List Env} {R : Result → Shared → Prop} {name qual : Str} {params : Arguments} {body : List Stmt} {scope : Scope} {dV kV doc pm cdv ct oc : Value} {an od : Option Addr} {osl : Array (Option Value)} {f cc : Addr} {args : Args} {binds : List (Str × Value)}
    (B : Below A₀ base outer h₀) (F : Fr h₀ L s.heap m) (X₀ : K.In h₀) (N : News h₀ L s.heap news) (T : Top p loose mean mg mb h₀) (hA : A.frames = some (env :: outer)) (hf : env.frame = some L) (hke : env.scope.kind = .function)
    (ho : K.lookup f = some ⟨oc, od, .func (ksFn name qual params body scope dV kV doc pm an cdv ct cc), osl⟩) (hcd : codeIn K cdv qual = true) (hroom : A.depth < recursionLimit)
    (hbind : BindsTo s (ksFn name qual params body scope dV kV doc pm an cdv ct cc) args binds) (hloc : ∀ y ∈ binds, scope.names.lookup y.1 = some .local)
    (h : ∀ g L' h₁, Fr h₀ L g m → Fr g L' h₁ (fun y => binds.reverse.lookup y) → News g L' h₁ news → Below A base (env :: outer) g → K.In g → Top p loose mean mg mb g → (∀ p ∈ news, p.1 < L') →
      _root_.PySem.wpAt (model prog w) (A.deeper (ksEnv qual scope L' f cdv cc)) (.func body (ksEnv qual scope L' f cdv cc)) (execs body (ksEnv qual scope L' f cdv cc))
        (fun fl s' => LeaveK h₀ L m g (fun r s' => Keep (news.map (·.1)) s.heap s'.heap → R r s') (match fl with | .ret v => v | _ => .none) s')
        (fun e s' => wpAny (model prog w) (A.deeper (ksEnv qual scope L' f cdv cc)) (leaving (ksEnv qual scope L' f cdv cc) e) (fun _ s'' => R (.error e) s'') (fun e' s'' => R (.error e') s'') s')
        { s with heap := h₁, toks := s.toks + binds.length })
    (hcell : ∀ x ∈ scope.names, x.2 ≠ .cell := by decide) (hco : scope.isCoroutine = false := by rfl) (hgen : scope.isGenerator = false := by rfl) (hk : scope.kind = .function := by rfl) : codeAny (model prog w) A (.call (.ref f) args) R s := by
  obtain ⟨FG, BG, st, lv⟩ := groundX (R := fun r s' => Keep (news.map (·.1)) s.heap s'.heap → R r s') B F N hA hf hke
  refine ks_codeAny_call_defAt (fd := ksFn name qual params body scope dV kV doc pm an cdv ct cc) (body := body) (binds := binds) hroom ((X₀.keeps F.keep) _ _ ho) rfl (T.nolimit.keeps F.keep) (codeRec_of (X₀.keeps F.keep) hcd) rfl hbind hcell hloc (fun h₁ hns hk₁ => ?_) hco hgen hk
  refine ks_wpAt_mono (h _ s.heap.objs.size h₁ FG ⟨hns, fun b o e => hk₁ b o (of_hideAll _ e), Nat.le_of_eq (hideAll_size _ _)⟩
    (fun p hp => ⟨hk₁ _ _ (N p hp).1, Nat.ne_of_lt (Heap.lt_size (N p hp).1), hideAll_none _ (List.mem_map_of_mem hp)⟩) BG (X₀.keeps st) (T.keeps st) (fun p hp => Heap.lt_size (N p hp).1)) (fun fl s' hl => ?_) fun _ _ y => y
  have hl' := lv _ _ hl
  obtain ⟨L', m', news', F', _, _⟩ := hl
  exact hl' fun b o hb e => F'.keep b o (hideAll_get _ e hb)
end
/-- the text's own two classes of faults, as the heap holds them -/
inductive ExcCls (K : Frag) (C : Addr) : Prop
  | mk (nm qn : Str) (N : Addr) (bs bm : List Value) (sn : List Str) (sub : List Value) (ab : Bool) (col : Option Bool) (dd : Option Addr) (k0 k1 k2 k3 k5 : Option Value)
    (h : K.lookup C = some (excClassObj nm qn C N bs bm true sn sub ab col dd k0 k1 k2 k3 k5 "Exception.__new__")) (t : TailOk bm) (o : bm.contains (.type "object") = true) : ExcCls K C
theorem excCls {P : Params} {C : Addr} (hC9 : C = 67 ∨ C = 86) : ExcCls (heap P) C := by
  rcases hC9 with rfl | rfl
  · exact .mk _ _ _ _ _ _ _ _ _ _ _ _ _ _ _ rfl ⟨rfl, rfl, rfl, rfl⟩ rfl
  · exact .mk _ _ _ _ _ _ _ _ _ _ _ _ _ _ _ rfl ⟨rfl, rfl, rfl, rfl⟩ rfl
set_option hygiene false in
local macro_rules | `(tactic| walk_at "cis") => `(tactic| first | k_is | (refine hC9.elim (fun e9 => ?_) (fun e9 => ?_) <;> (rw [e9]; first | k_is | ks_is | kernel_rfl | decide +kernel)))
set_option maxHeartbeats 20000000 in
theorem exc_made {C : Addr} (hC9 : C = 67 ∨ C = 86) {w : World} {mean : ExcName → Option Value} {mg mb : Str → Option Value} {dp un : Nat} {gd : Option (List Code)} {env : Env} {outer : List Env} {A₀ : Around} {base h₀ : Heap} {L : Addr} {m : Str → Option Value} {s : Shared} {Q E : Value → Shared → Prop}
    {x : Str} {tx : Tok}
    (B : Below A₀ base outer h₀) (F : Fr h₀ L s.heap m) (X : (heap w.params).In h₀) (T : Top view (looseW view []) mean mg mb h₀)
    (hf : env.frame = some L) (hk : env.scope.kind = .function) (hdp : dp ≤ 450) (hun : un ≤ 500)
    (ret : ∀ e h' tk', MadeD s.heap h' e (.ref C) [.str x tx] → Q (.ref e) { s with heap := h', toks := tk' }) :
    wpAny (model PySem.Challenge.rw_nz0152_01.row.prog w) { handled := none, depth := dp, frames := some (env :: outer), guards := gd, units := un } (call (.ref C) [.str x tx]) Q E s := by
  obtain ⟨hh, g, d, tk, os⟩ := s
  dsimp only at F ret
  have X₁ := X.keeps F.keep
  obtain ⟨nm, qn, NN, bs, bm, sn, sub, ab, col, dd, k0, k1, k2, k3, k5, hl, TO, hob⟩ := excCls (P := w.params) hC9
  have hC := X₁ _ _ hl
  refine wpAny_call ?_
  k_dflt (refine x_make (K := heap w.params) (fI := 37) TO X₁ hC (by walk_at "cis") (by walk_at "cis") (by walk_at "cis") (by walk_at "cis") ?_ (by simp [sizeLine_eq]))
  have F1 : Fr h₀ L ((hh.push (tupO [Value.str x tx])).push (bareExc C hh.objs.size)) m := (F.push _).push _
  have N1 : News h₀ L ((hh.push (tupO [Value.str x tx])).push (bareExc C hh.objs.size)) [(hh.objs.size + 1, bareExc C hh.objs.size), (hh.objs.size, tupO [Value.str x tx])] := by
    have := (News.nil.push F (tupO [Value.str x tx])).push (F.push _) (bareExc C hh.objs.size)
    rwa [Heap.size_push] at this
  generalize hh1 : (hh.push (tupO [Value.str x tx])).push (bareExc C hh.objs.size) = h1 at F1 N1 ⊢
  have kk : ∀ b o, hh.get? b = some o → h1.get? b = some o := fun b o q => by rw [← hh1]; exact Heap.get?_push_of_some _ (Heap.get?_push_of_some _ q)
  have gsz : h1.objs.size = hh.objs.size + 2 := by rw [← hh1]; simp
  have ne1 : hh.get? (hh.objs.size + 1) = none := Heap.get?_none_of_le (Nat.le_succ _)
  have ne0 : hh.get? hh.objs.size = none := Heap.get?_none_of_le (Nat.le_refl _)
  have h67 : @LT.lt Nat _ C hh.objs.size := Heap.lt_size hC
  generalize he : hh.objs.size + 1 = e at *
  generalize ht : hh.objs.size = t0 at *
  have w1 : @LT.lt Nat _ C e := by rw [← he]; exact Nat.lt_succ_of_lt h67
  have w2 : @LT.lt Nat _ t0 e := by rw [← he]; exact Nat.lt_succ_self _
  k_dflt (refine' enterSuper B F1 X N1 T ?kA hf hk ?k6 ?k7 ?k8 ?k9 ?kB ?_ ?c1 ?c2 ?c3 ?c4)
  case kA => exact rfl
  case k6 => k_is
  case k7 => k_is
  case k8 => ktr_room
  case k9 => exact BindsTo.of_eq rfl
  case kB => exact locs rfl
  case c1 => decide
  case c2 => exact rfl
  case c3 => exact rfl
  case c4 => exact rfl
  intro g' L' h' FG' F' N' B' X' T' l1
  dsimp only
  refine ks_wpAt_execs_cons ?_
  refine ks_wpAt_Expr_any ?_
  refine ks_wpAt_MethodCall ?_
  have I : InstAt h' e (bareExc C t0) C none := ⟨(N' _ (.head _)).1, rfl, rfl, trivial⟩
  k_dflt (refine ks_node (by k_asm) (by k_asm) (by k_asm) (by k_asm) (by walk_at "cis") (by rfl) (by rfl) I (by walk_at "cis") (by rfl) (by first | rfl | decide +kernel) (by walk_at "cis") (by walk_at "cis") (by walk_at "cis") (by walk_at "cis") (by decide) (by rfl) (by rfl) (by rfl) (by rfl) (by decide +kernel) (by first | boot_by_name | rfl | kernel_rfl) ?_)
  intro so h2 F2 N2 l2
  have X2 := X'.keeps F2.keep
  have hC2 := (X'.keeps F2.keep) _ _ hl
  have hm : ks_superIn (heap w.params) C 47 "__init__" = some (some xinit) := by k_dflt (walk_at "cis")
  obtain ⟨cd, hcd, hal⟩ := Option.bind_eq_some_iff.mp hm
  have hmro : Looks (model PySem.Challenge.rw_nz0152_01.row.prog w) h2 (mroOf (.ref C)) cd.mro := (looks_clsIn X2 hcd).andThen .now
  refine x_getMethod_super (D := 47) (N2 _ (.head _)).1 (looks_opaque X2 (by k_dflt (walk_at "cis"))) hmro rfl X2 hal (N2 _ (.tail _ (.head _))).1 rfl (looks_subIn X2 (by k_dflt (walk_at "cis"))) (Nat.ne_of_gt w1) ?_
  have q0 : (h2.push (mwObj e)).get? h2.objs.size = some (mwObj e) := Heap.get?_push_size _ rfl
  have lq : so < h2.objs.size := Heap.lt_size (N2 _ (.head _)).1
  have F3 := F2.push (mwObj e)
  have N3 := N2.push F2 (mwObj e)
  generalize h2.push (mwObj e) = h3 at q0 F3 N3 ⊢
  generalize h2.objs.size = q3 at q0 N3 lq ⊢
  refine callWith_of (P := fun h => h.get? q3 = some (mwObj e)) rfl (fun h p => ⟨.machine, .inr (.inl rfl), (Looks.ld (part := none) p).andThen .now⟩) (evalArgs_plain ?_)
  refine Calls.spliced_cons ?_
  show wpAny _ _ (eval (.Name (Str.ofString "what") _) _) _ _ _
  (iterate 1 walk1)
  refine spliced_nil ⟨q0, ?_⟩
  have hC3 := (X'.keeps F3.keep) _ _ hl
  have e3 : h3.get? e = some (bareExc C t0) := (N3 _ (.tail _ (.tail _ (.head _)))).1
  refine x_mw_call q0 e3 hC3 ?_
  have l3 : e < so := l2 _ (.head _)
  have l4 : t0 < so := l2 _ (.tail _ (.head _))
  have l5 : e < h3.objs.size := Heap.lt_size e3
  have l6 : q3 < h3.objs.size := Heap.lt_size q0
  have hq3 : e < q3 := Nat.lt_trans l3 lq
  have U := news_upd (f := Obj.mapFields (·.setIfInBounds 0 (.ref h3.objs.size))) (pre := [(h3.objs.size, tupO [Value.str x tx]), (q3, mwObj e), (so, ks_superObj 47 e C)]) (post := [(t0, tupO [Value.str x tx])]) (d := e) (F3.push (tupO [Value.str x tx])) (N3.push F3 (tupO [Value.str x tx]))
    (o' := dictlessExc C #[.ref h3.objs.size, .none, .none, .none, .bool false, .none])
    (List.forall_mem_cons.mpr ⟨Nat.ne_of_gt l5, List.forall_mem_cons.mpr ⟨Nat.ne_of_gt hq3, List.forall_mem_cons.mpr ⟨Nat.ne_of_gt l3, List.forall_mem_nil _⟩⟩⟩)
    (List.forall_mem_cons.mpr ⟨Nat.ne_of_lt w2, List.forall_mem_nil _⟩) rfl rfl
  obtain ⟨F4, N4⟩ := U
  have l7 : q3 < h3.objs.size := l6
  generalize (h3.push (tupO [Value.str x tx])).update e (Obj.mapFields (·.setIfInBounds 0 (.ref h3.objs.size))) = h4 at F4 N4 ⊢
  generalize h3.objs.size = t2 at N4 l5 l7 ⊢
  dsimp only
  refine _root_.PySem.wpAt_of_wpAny ?_
  (iterate 5 walk1)
  have n4 := N4 (e, dictlessExc C #[.ref t2, .none, .none, .none, .bool false, .none]) (by simp)
  have n4t := N4 (t2, tupO [Value.str x tx]) (.head _)
  have e4 : h4.get? e = some (dictlessExc C #[.ref t2, .none, .none, .none, .bool false, .none]) := n4.1
  have hcm : (clsIn (heap w.params) C).map (·.mro) = some [.ref C, .ref 47, .type "Exception", .type "BaseException", .type "object"] := by walk_at "cis"
  have hch : (clsIn (heap w.params) C).map (·.hasDict) = some true := by walk_at "cis"
  rw [hcd] at hcm hch
  have hcm := Option.some.inj hcm
  have hch := Option.some.inj hch
  dsimp only at hcm hch
  refine x_set (X'.keeps F4.keep) e4 hcd (by rw [hcm]; rfl) (by rw [hcm]; walk_at "cis") (fun self => by rw [hcm, refuseLoop_ref, refuseLoop_ref]; exact PySem.F.store_Exception.passes self) (by k_dflt (walk_at "cis")) hch (by k_dflt (walk_at "cis")) (fun h5 tk5 e5 k5 => ?_)
  obtain ⟨oL, es, ep, hL, rL⟩ := F4.ns
  have F5 := Fr.mk (h₀ := g') (h := h5) ⟨oL, es, ep, k5 _ _ (fun z => n4.2.1 z.symm) hL, rL⟩ (fun b o q => k5 b o (fun z => by have := n4.2.2; rw [← z, q] at this; cases this) (F4.keep b o q)) F4.above
  have N5 : News g' L' h5 [(e, fullExc C h4.objs.size #[.ref t2, .none, .none, .none, .bool false, .none]), (t2, tupO [Value.str x tx])] := by
    exact List.forall_mem_cons.mpr ⟨⟨e5, n4.2⟩, List.forall_mem_cons.mpr ⟨⟨k5 _ _ (Nat.ne_of_gt l5) n4t.1, n4t.2⟩, List.forall_mem_nil _⟩⟩
  dsimp only
  k_steps
  rename Keep _ _ _ => kp
  refine ret e h5 tk5 ⟨fun b o q => kp b o (fun z => ?_) (kk b o q), ne1, t2, h4.objs.size, _, e5, rfl, rfl, Heap.get?_none_of_le (by rw [ht]; exact Nat.le_of_lt (Nat.lt_trans w2 l5)), (N5 _ (.tail _ (.head _))).1⟩
  simp only [List.map_cons, List.map_nil, List.mem_cons, List.not_mem_nil, or_false] at z
  rcases z with rfl | rfl
  · rw [ne1] at q; cases q
  · rw [ne0] at q; cases q
end
section
open PySem PySem.W PySem.Calls PyProof.Rows
section
variable {M : Model} {A : Around} {E : Value → Shared → Prop} {s : Shared} {env : Env}
/-- a value that may be raised: an object of an own class of exceptions -/
inductive ExcAt (hp : Heap) (C : Addr) : Prop
  | mk (nm qn : Str) (N : Addr) (bs bm : List Value) (sn : List Str) (sub : List Value) (ab : Bool) (col : Option Bool) (dd : Option Addr) (k0 k1 k2 k3 k5 : Option Value)
    (hc : hp.get? C = some (excClassObj nm qn C N bs bm true sn sub ab col dd k0 k1 k2 k3 k5 "Exception.__new__")) (t : bm.contains (.type "BaseException") = true) : ExcAt hp C
noncomputable def RaisableO (E : Value → Shared → Prop) (v : Value) (s₁ : Shared) : Prop :=
  ∃ a C dx vs, v = .ref a ∧ ExcAt s₁.heap C ∧ s₁.heap.get? a = some (fullExc C dx vs) ∧ vs[1]? = some .none ∧ E (.ref a) s₁
theorem x_raise {e : Expr} {pos : Pos} {Q : Flow → Shared → Prop} (hh : A.handled = none) (h : wpAny M A (eval e env) (RaisableO E) E s) : wpAny M A (exec (.Raise (some e) none pos) env) Q E s := by
  show wpAny M A (do standAt pos; raiseStmt env (some (do let v ← eval e env; standAt pos; pure v)) none) Q E s
  refine wpAny_bind (wpAny_standAt ?_)
  unfold raiseStmt
  dsimp only
  refine wpAny_bind (wpAny_bind (wpAny_mono h (fun v s₁ h₁ => wpAny_bind (wpAny_standAt (wpAny_pure ?_))) fun _ _ x => x))
  obtain ⟨a, C, dx, vs, rfl, ⟨nm, qn, N, bs, bm, sn, sub, ab, col, dd, k0, k1, k2, k3, k5, hC, hb⟩, he, h1, hE⟩ := h₁
  have hcB : (Value.ref C :: bm).contains (.type "BaseException") = true := by rw [List.contains_cons, hb, Bool.or_true]
  obtain ⟨hp, g, d, tk, os⟩ := s₁
  repeat (first | with_reducible refine wpAny_loadPart_at he ?_ | with_reducible refine wpAny_loadPart_at hC ?_ | (with_reducible refine wpAny_isSubtype_exc hC ?_; rw [hcB]) | wp_step)
  rw [h1]
  repeat wp_step
  exact wpAny_raiseNew_none hh hE
end
section
variable {M : Model} {A : Around} {E : Value → Shared → Prop} {s' : Shared} {base g g₂ h : Heap} {outer : List Env} {L a e : Addr} {m : Str → Option Value} {name : Str} {scope : Scope} {cd : Value} {Q : Unit → Shared → Prop} {news : List (Addr × Obj)}
/-- an own exception, new in this frame, leaves it -/
theorem leave_raiseD {cls : Value} {vs : List Value} (K : Below A base outer g) (hx : MadeD h s'.heap e cls vs) (F : Fr g L h m) (N : News g L h news)
    (hQ : ∀ h' t, RaisedS base g outer e cls t vs news h' → g.UpToSlots h' → Q () { s' with heap := h' }) (hk : scope.kind = .function := by rfl) :
    wpAny M (A.deeper (envOf name scope L a cd)) (leaving (envOf name scope L a cd) (.ref e)) Q E s' := by
  have K' := K.push (name := name) (a := a) (cd := cd) F hk
  obtain ⟨t, dx, fs, he, f0, f1, htn, ht⟩ := hx.there
  have hin : ∀ env ∈ (envOf name scope L a cd :: outer), ∀ b, env.frame = some b → b ∈ (envOf name scope L a cd :: outer).filterMap (·.frame) := fun env hm b hb => List.mem_filterMap.mpr ⟨env, hm, hb⟩
  have st : base.StaysIn (hideAll h ((envOf name scope L a cd :: outer).filterMap (·.frame))) := fun b o q => hideAll_get _ (K'.stays b o q) fun hm => by
    rw [(K'.frames.mem hm).1] at q; cases q
  have sg : ∀ b o, g.get? b = some o → b ∉ outer.filterMap (·.frame) → (hideAll h ((envOf name scope L a cd :: outer).filterMap (·.frame))).get? b = some o := fun b o q nm => hideAll_get _ (F.keep b o q) fun hm => by
    rcases kts_mem hm with z | z
    · rw [z, kts_self F] at q
      cases q
    · exact nm z
  have hl : ∀ q ∈ news, (hideAll h ((envOf name scope L a cd :: outer).filterMap (·.frame))).get? q.1 = some q.2 ∧ g.get? q.1 = none ∧ base.get? q.1 = none := fun q hq => by
    refine ⟨hideAll_get _ (N q hq).1 fun hm => ?_, (N q hq).2.2, fresh_of_stays K.stays (N q hq).2.2⟩
    obtain ⟨env, hm', hf⟩ := List.mem_filterMap.mp hm
    rcases List.mem_cons.mp hm' with rfl | hm'
    · exact (N q hq).2.1 (Option.some.inj hf).symm
    · obtain ⟨o, ho, _⟩ := (K.frames.mem (List.mem_filterMap.mpr ⟨env, hm', hf⟩)).2
      rw [(N q hq).2.2] at ho; cases ho
  have nw : ∀ b, h.get? b = none → (hideAll h ((envOf name scope L a cd :: outer).filterMap (·.frame))).get? b = none := fun b hb => by
    cases q : (hideAll h ((envOf name scope L a cd :: outer).filterMap (·.frame))).get? b with
    | none => rfl
    | some o => have := of_hideAll _ q; rw [hb] at this; cases this
  refine wpAny_leaving_firstW (a0 := .ref t) K'.stack ((funFrames_hide K'.frames hin).of_keeps fun b o hb _ => ⟨o, hx.keeps b o hb, rfl⟩) rfl he (fun b o hb => hx.keeps b o (of_hideAll _ hb)) (nw e hx.new) rfl f1 f0 fun h' hL => ?_
  obtain ⟨q1, ⟨_, _, q2⟩, q3, q4⟩ := hL
  exact hQ h' t ⟨⟨_, st, sg, hl, ⟨q1, nw e hx.new, q2, q3⟩, nw t htn⟩, Heap.TupAt.of_slots ⟨_, _, ht, rfl, rfl⟩ q4⟩
    (((Heap.UpToSlots.of_keeps F.keep).trans (Heap.UpToSlots.of_keeps hx.keeps)).trans q4)
end
section
variable {M : Model} {A : Around} {E : Value → Shared → Prop}
theorem x_matches_not {h : Heap} {g : Array GenState} {d : Drawn} {t : Nat} {os : OsState} {e C C1 : Addr} {oe : Obj} {Q : Bool → Shared → Prop}
    {nm q : Str} {N : Addr} {bs bm : List Value} {hdct : Bool} {sn : List Str} {sub : List Value} {ab : Bool} {col : Option Bool} {dd : Option Addr} {k0 k1 k2 k3 k5 : Option Value} {newId : String}
    (hC : h.get? C1 = some (excClassObj nm q C1 N bs bm hdct sn sub ab col dd k0 k1 k2 k3 k5 newId)) (he : h.get? e = some oe) (hcls : oe.cls = .ref C) (hbase : bm.contains (.type "BaseException") = true)
    (hsub : Looks M h (isSubtype (.ref C) (.ref C1)) false) (hq : Q false ⟨h, g, d, t, os⟩) : wpAny M A (excMatches (.ref e) (.ref C1)) Q E ⟨h, g, d, t, os⟩ := by
  have hcB : (Value.ref C1 :: bm).contains (.type "BaseException") = true := by rw [List.contains_cons, hbase, Bool.or_true]
  have f := tc_notTuple
  unfold excMatches
  repeat (first | (with_reducible refine wpAny_loadPart_at he ?_; rw [hcls]) | with_reducible refine wpAny_loadPart_at hC ?_ | (with_reducible refine wpAny_isSubtype_exc hC ?_; rw [hcB]) | with_reducible refine Looks.at hsub ?_ | wp_step)
  exact hq
/-- the class of a clause, known by the part kept: it is not the exception's -/
theorem kts_not {K : Frag} {h₁ : Heap} {s : Shared} {e C C1 : Addr} {oe : Obj} {Q : Bool → Shared → Prop} (X : K.In h₁) (q : ktsIn K C1 "BaseException" = true) (kp : ∀ b o, h₁.get? b = some o → s.heap.get? b = some o)
    (he : s.heap.get? e = some oe) (hcls : oe.cls = .ref C) (hsub : Looks M s.heap (isSubtype (.ref C) (.ref C1)) false) (hq : Q false s) : wpAny M A (excMatches (.ref e) (.ref C1)) Q E s := by
  obtain ⟨h, g, d, t, os⟩ := s
  obtain ⟨_, _, _, _, _, _, _, _, _, _, _, _, _, _, _, _, _, hC1, hb, _⟩ := kts_cls X q
  exact x_matches_not (kp _ _ hC1) he hcls hb hsub hq
theorem kts_self {K : Frag} {h₁ : Heap} {s : Shared} {e C : Addr} {oe : Obj} {Q : Bool → Shared → Prop} (X : K.In h₁) (q : ktsIn K C "BaseException" = true) (kp : ∀ b o, h₁.get? b = some o → s.heap.get? b = some o)
    (he : s.heap.get? e = some oe) (hcls : oe.cls = .ref C) (hq : Q true s) : wpAny M A (excMatches (.ref e) (.ref C)) Q E s := by
  obtain ⟨_, _, _, _, _, _, _, _, _, _, _, _, _, _, _, _, _, hC1, hb, _⟩ := kts_cls X q
  exact wpAny_excMatches_sub_self (kp _ _ hC1) he hcls hb hq
end
section
variable {prog : Program} {w : World} {A₀ : Around} {E : Value → Shared → Prop} {s' : Shared} {base g g₀ G : Heap} {outer : List Env} {L a e t C C1 : Addr} {m : Str → Option Value} {name : Str} {scope : Scope} {cd : Value}
  {vs : List Value} {b₀ : Stmt} {suite body1 : List Stmt} {pos np pos1 np1 : Pos} {rest : List ExceptHandler} {Q : Flow → Shared → Prop} {news : List (Addr × Obj)} {KF : Frag}
  {p : Program} {loose : List Str} {mean : ExcName → Option Value} {mg mb : Str → Option Value} {x x1 : Str}
/-- caught by the second clause, the first one not matching -/
theorem caught_second (R : RaisedS base G (envOf name scope L a cd :: outer) e (.ref C) t vs news s'.heap) (F : Fr g L G m) (K : Below A₀ base outer g) (hsm : G.UpToSlots s'.heap) (XB : KF.In base) (TB : Top p loose mean mg mb base)
    (D : KtsDicts (outer.filterMap (·.frame)) g) (T0 : KtsTurn (outer.filterMap (·.frame)) g₀ g)
    (ex1 : nsIn KF mainGlobals x1 = some (some (.ref C1))) (q1 : ktsIn KF C1 "BaseException" = true) (sub1 : subIn KF (.ref C) (.ref C1) = some false)
    (ex : nsIn KF mainGlobals x = some (some (.ref C))) (q : ktsIn KF C "BaseException" = true)
    (k : ∀ h' g', KtsTurn (outer.filterMap (·.frame)) g₀ g' → Fr g' L h' m → News g' L h' news → Below A₀ base outer g' → KF.In g' → Top p loose mean mg mb g' → KtsDicts (outer.filterMap (·.frame)) g' →
      wpAny (model prog w) ((A₀.deeper (envOf name scope L a cd)).mark (some (.ref e))) (execs (b₀ :: suite) (envOf name scope L a cd)) Q E { s' with heap := h' })
    (hk : scope.kind = .function := by rfl) (hx : (envOf name scope L a cd).kindOf x = some .globalImplicit := by rfl) (hd : (x == ("__debug__" : Str)) = false := by decide)
    (hx1 : (envOf name scope L a cd).kindOf x1 = some .globalImplicit := by rfl) (hd1 : (x1 == ("__debug__" : Str)) = false := by decide)
    (hE : PassesOwnAt (model prog w) ((A₀.deeper (envOf name scope L a cd)).mark (some (.ref e))) (A₀.deeper (envOf name scope L a cd)) (envOf name scope L a cd) E := by passes_own) :
    wpAny (model prog w) (A₀.deeper (envOf name scope L a cd)) (noteFrame (.ref e) (envOf name scope L a cd))
      (fun _ s₂ => wpAny (model prog w) (A₀.deeper (envOf name scope L a cd)) (setFlight (.ref e) none) (fun _ s₃ =>
        wpAny (model prog w) (A₀.deeper (envOf name scope L a cd)) (handleBy (.ref e) (envOf name scope L a cd) (.ExceptHandler (some (.Name x1 np1)) none body1 pos1 :: .ExceptHandler (some (.Name x np)) none (b₀ :: suite) pos :: rest)) Q E s₃) E s₂) E s' := by
  obtain ⟨⟨B, hB, hBG, hl, hfl, hnew⟩, htup⟩ := R
  have hL : B.get? L = none := by
    obtain ⟨_, ⟨L', _, hf, hn', _⟩, _⟩ := hfl.2.2.1
    obtain rfl : L = L' := Option.some.inj hf
    exact hn'
  refine wpAny_looks_onW (Around.frames_deeper K.stack) rfl hfl fun h₄ hheld₄ hsm₄ => ?_
  refine wpAny_landsW hheld₄ fun h₅ hheld hsm₅' => ?_
  have hsm₅ := hsm₄.trans hsm₅'
  obtain ⟨g₅, T₅, F₅, K₅⟩ := kts_ground K F hBG hheld.1 (hsm.trans hsm₅)
  have X₅ : KF.In g₅ := XB.keeps K₅.stays
  have P₅ : TopRead p loose mg mb g₅ := topRead_of (TB.keeps K₅.stays)
  obtain ⟨ob, hob, hobc⟩ := hheld.there
  have hsub := looks_subIn (M := model prog w) (X₅.keeps F₅.keep) sub1
  refine wpAny_handleBy_cons (codeAny_handlers_test (name_K F₅ X₅ P₅ ex1 ?_ hk hx1 hd1)) (by intro q; cases q)
  refine kts_not X₅ q1 F₅.keep hob hobc hsub ?_
  refine wpAny_handleBy_cons (codeAny_handlers_test (name_K F₅ X₅ P₅ ex ?_ hk hx hd)) (by intro q; cases q)
  refine kts_self X₅ q F₅.keep hob hobc (codeAny_handlers_suite ?_)
  refine lands_againW hheld fun h₆ hfl₆ hsm₆ => ?_
  obtain ⟨g₆, T₆, F₆, K₆⟩ := kts_ground K F hBG hfl₆.1 ((hsm.trans hsm₅).trans hsm₆)
  have Nl : News g₆ L h₆ news := fun q hq => ⟨hfl₆.1 _ _ (hl q hq).1, (fun z => by have := (hl q hq).1; rw [z, hL] at this; cases this), T₆.none_ _ (kts_none F.keep (hl q hq).2.1)⟩
  exact wpAny_passesOwnAt hE (k h₆ g₆ (T0.trans T₆) F₆ Nl K₆ (XB.keeps K₆.stays) (TB.keeps K₆.stays) (D.turn T₆))
end
section
variable {w : World} {mean : ExcName → Option Value} {mg mb : Str → Option Value} {dp un : Nat} {gd : Option (List Code)} {env : Env} {outer : List Env} {A₀ : Around} {base h₀ : Heap} {L : Addr} {m : Str → Option Value} {s : Shared} {E : Value → Shared → Prop} {x : Str} {tx : Tok}
theorem raisableO_of {C : Addr} {e : Addr} {h : Heap} {vs : List Value} {tk : Nat} (X : (heap w.params).In s.heap) (q : C = 67 ∨ C = 86) (D : MadeD s.heap h e (.ref C) vs)
    (hE : E (.ref e) { s with heap := h, toks := tk }) : RaisableO E (.ref e) { s with heap := h, toks := tk } := by
  obtain ⟨nm, qn, NN, bs, bm, sn, sub, ab, col, dd, k0, k1, k2, k3, k5, hl, TO, hob⟩ := excCls (P := w.params) q
  obtain ⟨t, dx, fs, he, f0, f1, htn, ht⟩ := D.there
  exact ⟨e, C, dx, fs, rfl, .mk nm qn NN bs bm sn sub ab col dd k0 k1 k2 k3 k5 (D.keeps _ _ (X _ _ hl)) TO.base, he, f1, hE⟩
theorem exc_raise67 (B : Below A₀ base outer h₀) (F : Fr h₀ L s.heap m) (X : (heap w.params).In h₀) (T : Top view (looseW view []) mean mg mb h₀)
    (hf : env.frame = some L) (hk : env.scope.kind = .function) (hdp : dp ≤ 450) (hun : un ≤ 500)
    (ret : ∀ e h' tk', MadeD s.heap h' e (.ref 67) [.str x tx] → E (.ref e) { s with heap := h', toks := tk' }) :
    wpAny (model PySem.Challenge.rw_nz0152_01.row.prog w) { handled := none, depth := dp, frames := some (env :: outer), guards := gd, units := un } (call (.ref 67) [.str x tx]) (RaisableO E) E s :=
  exc_made (.inl rfl) B F X T hf hk hdp hun fun e h' tk' D => raisableO_of (X.keeps F.keep) (.inl rfl) D (ret e h' tk' D)
theorem exc_raise86 (B : Below A₀ base outer h₀) (F : Fr h₀ L s.heap m) (X : (heap w.params).In h₀) (T : Top view (looseW view []) mean mg mb h₀)
    (hf : env.frame = some L) (hk : env.scope.kind = .function) (hdp : dp ≤ 450) (hun : un ≤ 500)
    (ret : ∀ e h' tk', MadeD s.heap h' e (.ref 86) [.str x tx] → E (.ref e) { s with heap := h', toks := tk' }) :
    wpAny (model PySem.Challenge.rw_nz0152_01.row.prog w) { handled := none, depth := dp, frames := some (env :: outer), guards := gd, units := un } (call (.ref 86) [.str x tx]) (RaisableO E) E s :=
  exc_made (.inr rfl) B F X T hf hk hdp hun fun e h' tk' D => raisableO_of (X.keeps F.keep) (.inr rfl) D (ret e h' tk' D)
end
end
section
open PySem PySem.W PyProof.Rows
/-- what stands in a key: a text, a number, a tuple of numbers -/
inductive EK where
  | s (x : Str)
  | i (n : Int)
  | t (l : List Int)
  deriving DecidableEq
noncomputable def IsEK (h : Heap) : EK → Value → Prop
  | .s x, v => ∃ t, v = .str x t ∧ PyData.strOk x = true
  | .i n, v => ∃ t, v = .int n t
  | .t l, v => ∃ b us, v = .ref b ∧ h.get? b = some (tupO us) ∧ IntsAre us l
inductive AreEK (h : Heap) : List EK → List Value → Prop
  | nil : AreEK h [] []
  | cons {k ks v vs} : IsEK h k v → AreEK h ks vs → AreEK h (k :: ks) (v :: vs)
noncomputable def IsNK (h : Heap) (ks : List EK) (a : Addr) : Prop := ∃ vs, h.get? a = some (tupO vs) ∧ AreEK h ks vs
noncomputable def encE : EK → PyData
  | .s x => .str x
  | .i n => .int n
  | .t l => .tuple (l.map .int)
noncomputable def encN (ks : List EK) : PyData := .tuple (ks.map encE)
theorem IntsAre.inj {vs : List Value} {a b : List Int} (x : IntsAre vs a) (y : IntsAre vs b) : a = b := by
  induction x generalizing b with
  | nil => cases y; rfl
  | cons n t x ih => cases y with | cons _ _ y => rw [ih y]
theorem tupO_inj {a b : List Value} (h : tupO a = tupO b) : a = b := by
  simpa [tupO] using h
theorem IsEK.str {h : Heap} {y : EK} {a : Str} {t : Tok} (q : IsEK h y (.str a t)) : EK.s a = y := by
  cases y with
  | s _ => obtain ⟨_, e, _⟩ := q; cases e; rfl
  | i _ => obtain ⟨_, e⟩ := q; cases e
  | t _ => obtain ⟨_, _, e, _⟩ := q; cases e
theorem IsEK.int {h : Heap} {y : EK} {n : Int} {t : Tok} (q : IsEK h y (.int n t)) : EK.i n = y := by
  cases y with
  | s _ => obtain ⟨_, e, _⟩ := q; cases e
  | i _ => obtain ⟨_, e⟩ := q; cases e; rfl
  | t _ => obtain ⟨_, _, e, _⟩ := q; cases e
theorem IsEK.tup {h : Heap} {y : EK} {b : Addr} {us : List Value} {l : List Int} (g : h.get? b = some (tupO us)) (i : IntsAre us l) (q : IsEK h y (.ref b)) : EK.t l = y := by
  cases y with
  | s _ => obtain ⟨_, e, _⟩ := q; cases e
  | i _ => obtain ⟨_, e⟩ := q; cases e
  | t _ =>
    obtain ⟨_, _, e, g', i'⟩ := q
    cases e
    rw [g] at g'
    obtain rfl := tupO_inj (Option.some.inj g')
    rw [IntsAre.inj i i']
theorem IsEK.inj {h : Heap} {v : Value} {x y : EK} (p : IsEK h x v) (q : IsEK h y v) : x = y := by
  cases x with
  | s _ => obtain ⟨_, rfl, _⟩ := p; exact q.str
  | i _ => obtain ⟨_, rfl⟩ := p; exact q.int
  | t _ => obtain ⟨_, _, rfl, g, i⟩ := p; exact q.tup g i
theorem AreEK.inj {h : Heap} {vs : List Value} {x y : List EK} (p : AreEK h x vs) (q : AreEK h y vs) : x = y := by
  induction p generalizing y with
  | nil => cases q; rfl
  | cons a _ ih => cases q with | cons b q => rw [a.inj b, ih q]
theorem IsNK.inj {h : Heap} {a : Addr} {x y : List EK} (p : IsNK h x a) (q : IsNK h y a) : x = y := by
  obtain ⟨vs, g, e⟩ := p
  obtain ⟨vs', g', e'⟩ := q
  rw [g] at g'
  obtain rfl := tupO_inj (Option.some.inj g')
  exact e.inj e'
theorem IsEK.keeps {h h' : Heap} (hk : ∀ b us, h.get? b = some (tupO us) → h'.get? b = some (tupO us)) {v : Value} {k : EK} (x : IsEK h k v) : IsEK h' k v := by
  cases k with
  | t _ => obtain ⟨b, us, e, g, i⟩ := x; exact ⟨b, us, e, hk _ _ g, i⟩
  | _ => exact x
theorem AreEK.keeps {h h' : Heap} (hk : ∀ b us, h.get? b = some (tupO us) → h'.get? b = some (tupO us)) {ks : List EK} {vs : List Value} (x : AreEK h ks vs) : AreEK h' ks vs := by
  induction x with
  | nil => exact .nil
  | cons a _ ih => exact .cons (a.keeps hk) ih
theorem IsNK.keeps {h h' : Heap} (hk : ∀ b us, h.get? b = some (tupO us) → h'.get? b = some (tupO us)) {ks : List EK} {a : Addr} : IsNK h ks a → IsNK h' ks a
  | ⟨vs, g, e⟩ => ⟨vs, hk _ _ g, e.keeps hk⟩
theorem ints_reads {h : Heap} {vs : List Value} {ns : List Int} (x : IntsAre vs ns) : ReadsAll h vs (ns.map .int) [] := by
  induction x with
  | nil => exact .nil
  | cons n t _ ih => exact .cons (.int n t) ih
theorem ek_reads {h : Heap} {v : Value} {k : EK} (x : IsEK h k v) : Reads h v (encE k) [] := by
  cases k with
  | s _ => obtain ⟨_, rfl, _⟩ := x; exact .str _ _
  | i _ => obtain ⟨_, rfl⟩ := x; exact .int _ _
  | t _ => obtain ⟨_, _, rfl, g, i⟩ := x; exact .tuple g rfl rfl (by simpa using ints_reads i)
theorem eks_reads {h : Heap} {ks : List EK} {vs : List Value} (x : AreEK h ks vs) : ReadsAll h vs (ks.map encE) [] := by
  induction x with
  | nil => exact .nil
  | cons a _ ih => exact .cons (ek_reads a) ih
theorem nk_reads {h : Heap} {ks : List EK} {a : Addr} : IsNK h ks a → Reads h (.ref a) (encN ks) []
  | ⟨_, g, e⟩ => .tuple g rfl rfl (by simpa using eks_reads e)
theorem lay_ints : ∀ l : List Int, PyData.canLayAll0 (l.map .int) = true
  | [] => rfl
  | _ :: r => by simp [PyData.canLayAll0, PyData.canLay0, lay_ints r]
theorem lay_e {h : Heap} {v : Value} {k : EK} (x : IsEK h k v) : (encE k).canLay0 = true := by
  cases k with
  | s _ => obtain ⟨_, _, o⟩ := x; exact o
  | i _ => rfl
  | t l => simp [encE, PyData.canLay0, lay_ints]
theorem lay_es {h : Heap} {ks : List EK} {vs : List Value} (x : AreEK h ks vs) : PyData.canLayAll0 (ks.map encE) = true := by
  induction x with
  | nil => rfl
  | cons a _ ih => simp [PyData.canLayAll0, lay_e a, ih]
theorem lay_n {h : Heap} {ks : List EK} {a : Addr} : IsNK h ks a → (encN ks).canLay0 = true
  | ⟨_, _, e⟩ => by simp [encN, PyData.canLay0, lay_es e]
theorem depth_ints : ∀ l : List Int, PyData.depthAll (l.map .int) ≤ 1
  | [] => by simp [PyData.depthAll]
  | _ :: r => by have := depth_ints r; simp [PyData.depthAll, PyData.depth]; omega
theorem depth_e (k : EK) : (encE k).depth ≤ 2 := by
  cases k with
  | t l => have := depth_ints l; simp [encE, PyData.depth]; omega
  | _ => simp [encE, PyData.depth]
theorem depth_es : ∀ ks : List EK, PyData.depthAll (ks.map encE) ≤ 2
  | [] => by simp [PyData.depthAll]
  | k :: r => by have := depth_es r; have := depth_e k; simp [PyData.depthAll]; omega
theorem depth_n (ks : List EK) : (encN ks).depth ≤ 3 := by have := depth_es ks; simp [encN, PyData.depth]; omega
theorem eqv_ints : ∀ a b : List Int, PyData.eqvAll (a.map .int) (b.map .int) = decide (a = b)
  | [], [] => by simp [PyData.eqvAll]
  | [], _ :: _ => by simp [PyData.eqvAll]
  | _ :: _, [] => by simp [PyData.eqvAll]
  | x :: a, y :: b => by
    simp only [List.map_cons, PyData.eqvAll, PyData.eqv, eqv_ints a b, List.cons.injEq]
    by_cases h1 : x = y <;> by_cases h2 : a = b <;> simp [h1, h2]
theorem eqv_e (a b : EK) : PyData.eqv (encE a) (encE b) = decide (a = b) := by
  cases a <;> cases b <;> simp [encE, PyData.eqv, eqv_ints] <;> (rw [Bool.eq_iff_iff]; simp)
theorem eqv_es : ∀ a b : List EK, PyData.eqvAll (a.map encE) (b.map encE) = decide (a = b)
  | [], [] => by simp [PyData.eqvAll]
  | [], _ :: _ => by simp [PyData.eqvAll]
  | _ :: _, [] => by simp [PyData.eqvAll]
  | x :: a, y :: b => by
    simp only [List.map_cons, PyData.eqvAll, eqv_e, eqv_es a b, List.cons.injEq]
    by_cases h1 : x = y <;> by_cases h2 : a = b <;> simp [h1, h2]
theorem eqv_n (a b : List EK) : PyData.eqv (encN a) (encN b) = decide (a = b) := by simp [encN, PyData.eqv, eqv_es]
noncomputable def drawsE : EK → Nat
  | .s _ => 1
  | .i _ => 1
  | .t l => l.length + 1
noncomputable def drawsL : List EK → Nat
  | [] => 0
  | k :: r => drawsE k + drawsL r
noncomputable def hashE (w : World) (prog : Program) : EK → Int
  | .s x => hashStr w x
  | .i n => hashInt n
  | .t l => tupleKeyHash (intKind prog w) l
noncomputable def hashN (w : World) (prog : Program) (ks : List EK) : Int := reduceHash (Builtin.Tuple.tupleHashOf (ks.map (hashE w prog)))
theorem items_of {prog : Program} {w : World} {us : List Value} {l : List Int} (x : IntsAre us l) : ItemsAre (intKind prog w) l us := by
  induction x with
  | nil => exact .nil
  | cons n t _ ih => exact .cons (by simp [intKind, Value.isInt]) ih
section
variable {prog : Program} {w : World} {A : Around} {E : Value → Shared → Prop} {s : Shared}
theorem ek_hash (hu : A.units + 1 < cLine) {v : Value} {k : EK} {Q : Int → Shared → Prop} (hk : IsEK s.heap k v) (h : Q (hashE w prog k) { s with toks := s.toks + drawsE k }) : wpAny (model prog w) A (pyHash v) Q E s := by
  cases k with
  | s x => obtain ⟨t, rfl, _⟩ := hk; exact wpAny_pyHash_str h
  | i n => obtain ⟨t, rfl⟩ := hk; exact wpAny_pyHash_int h
  | t l =>
    obtain ⟨b, us, rfl, g, i⟩ := hk
    exact wpAny_pyHash_tuple (knd := intKind prog w) (by omega) ⟨_, us.toArray, 0, g, rfl, rfl, by simpa using items_of i⟩ h
theorem hash_loop (hu : A.units + 1 < cLine) : ∀ (ks : List EK) (vs : List Value) (s : Shared) (b : Array Int) (Q : Array Int → Shared → Prop), AreEK s.heap ks vs →
    (∀ b', b'.toList = b.toList ++ ks.map (hashE w prog) → Q b' { s with toks := s.toks + drawsL ks }) →
    wpAny (model prog w) A (forIn vs b fun x r => do let h ← pyHash x; pure PUnit.unit; pure (ForInStep.yield (r.push h))) Q E s
  | [], _, s, b, Q, x, h => by cases x; exact wpAny_pure (h b (by simp))
  | k :: ks, _, s, b, Q, x, h => by
    cases x with
    | cons x1 x2 =>
      rw [List.forIn_cons]
      refine wpAny_bind (wpAny_bind (ek_hash hu x1 ?_))
      refine wpAny_bind (wpAny_pure (wpAny_pure ?_))
      refine hash_loop hu ks _ { s with toks := s.toks + drawsE k } _ Q x2 fun b' hb => ?_
      have := h b' (by simp [hb])
      simpa [drawsL, Nat.add_assoc] using this
theorem nk_hash (hu : A.units + 3 < cLine) {a : Addr} {ks : List EK} {Q : Int → Shared → Prop} (hk : IsNK s.heap ks a) (h : Q (hashN w prog ks) { s with toks := s.toks + (drawsL ks + 1) }) : wpAny (model prog w) A (pyHash (.ref a)) Q E s := by
  obtain ⟨vs, g, e⟩ := hk
  refine pyHash_slot (T := "tuple") ⟨_, g, rfl⟩ PySem.F.slot_tuple_hash PySem.F.entry_tuple_hash (PySem.F.args_tuple_hash_1 _) (beq_builtin_none _) (.inr (by omega)) ?_
  show wpAny _ _ (Builtin.Tuple.tupleItemsOf (.ref a) >>= _) _ _ s
  refine wpAny_bind (wpAny_tupleItemsOf g rfl ?_)
  refine wpAny_bind ?_
  rw [← Array.forIn_toList]
  refine hash_loop (A := A.in1) (by simp only [Around.in1_units]; omega) ks _ s #[] _ (by simpa using e) fun b hb => ?_
  show wpAny _ _ (retInt (Builtin.Tuple.tupleHashOf b.toList)) _ _ _
  rw [hb]
  exact wpAny_bind (wpAny_mkInt (wpAny_pure ⟨_, _, rfl, by simpa [Nat.add_assoc, hashN] using h⟩))
theorem nk_eq (hu : A.units + 3 < cLine) {x y : List EK} {a b : Addr} {Q : Bool → Shared → Prop} (hx : IsNK s.heap x a) (hy : IsNK s.heap y b) (h : Q (decide (x = y)) s) : wpAny (model prog w) A (eqBool (.ref a) (.ref b)) Q E s :=
  SeqAt.eqBoolOverData prog w A E s _ _ _ _ _ _ Q (nk_reads hx) (nk_reads hy) (lay_n hx) (lay_n hy) (by have := depth_n x; omega) (by rw [eqv_n]; exact h)
theorem quiet_tuple {n : Nat} {a : Addr} {vs : List Value} {Q : Bool → Shared → Prop} (g : s.heap.get? a = some (tupO vs)) (he : ∀ v ∈ vs, ∀ Q' : Bool → Shared → Prop, Q' true s → wpAny (model prog w) A (eqIsQuiet n v) Q' E s) (h : Q true s) :
    wpAny (model prog w) A (eqIsQuiet (n + 1) (.ref a)) Q E s := by
  have hT : s.TypeIs (.ref a) "tuple" := ⟨_, g, rfl⟩
  unfold eqIsQuiet
  refine wpAny_bind (wpAny_specialOf hT PySem.F.slot_tuple_eq.lookup ?_)
  show wpAny _ _ (isInstance (.ref a) (.type "tuple") >>= _) _ _ s
  refine wpAny_bind (wpAny_isInstance hT isSubtype_tuple_tuple ?_)
  simp only [Bool.not_true, Bool.false_eq_true, if_false]
  refine wpAny_bind (wpAny_seqItems g rfl ?_)
  refine wpAny_bind ?_
  show wpAny _ _ (forIn vs.toArray _ _) _ _ s
  rw [← Array.forIn_toList]
  refine wpAny_forIn_list _ (fun rest r s' => r.1 = none ∧ s' = s ∧ ∀ v ∈ rest, v ∈ vs) _ ?_ ?_ _ _ ⟨rfl, rfl, by simp⟩
  · rintro v rest r s' ⟨hr, rfl, hall⟩
    refine wpAny_bind (he v (hall v List.mem_cons_self) _ ?_)
    simp only [Bool.not_true, Bool.false_eq_true, if_false]
    exact wpAny_pure ⟨rfl, rfl, fun u hu' => hall u (List.mem_cons_of_mem _ hu')⟩
  · rintro ⟨r1, r2⟩ s' ⟨hr, rfl, _⟩
    simp only at hr
    subst hr
    exact wpAny_pure h
theorem ints_byValue {us : List Value} {l : List Int} (x : IntsAre us l) : ∀ v ∈ us, carriedByValue v = true := by
  induction x with
  | nil => exact fun _ h => absurd h List.not_mem_nil
  | cons _ _ _ ih => exact List.forall_mem_cons.mpr ⟨rfl, ih⟩
theorem quiet_val {n : Nat} {v : Value} {Q : Bool → Shared → Prop} (hv : carriedByValue v = true) (h : Q true s) : wpAny (model prog w) A (eqIsQuiet n v) Q E s := by
  rw [eqIsQuiet_byValue n hv]; exact wpAny_pure h
theorem quiet_ek {n : Nat} {v : Value} {k : EK} {Q : Bool → Shared → Prop} (x : IsEK s.heap k v) (h : Q true s) : wpAny (model prog w) A (eqIsQuiet (n + 1) v) Q E s := by
  cases k with
  | s _ => obtain ⟨_, e, _⟩ := x; rw [e]; exact quiet_val rfl h
  | i _ => obtain ⟨_, e⟩ := x; rw [e]; exact quiet_val rfl h
  | t _ => obtain ⟨_, _, e, g, i⟩ := x; rw [e]; exact quiet_tuple g (fun v hv Q' q => quiet_val (ints_byValue i v hv) q) h
theorem eks_mem {h : Heap} {ks : List EK} {vs : List Value} (x : AreEK h ks vs) : ∀ v ∈ vs, ∃ k, IsEK h k v := by
  induction x with
  | nil => exact fun _ h => absurd h List.not_mem_nil
  | cons a _ ih => exact List.forall_mem_cons.mpr ⟨⟨_, a⟩, ih⟩
theorem nk_quiet {ks : List EK} {a : Addr} {Q : Bool → Shared → Prop} (hk : IsNK s.heap ks a) (h : Q true s) : wpAny (model prog w) A (eqIsQuiet 8 (.ref a)) Q E s := by
  obtain ⟨vs, g, e⟩ := hk
  exact quiet_tuple g (fun v hv Q' q => let ⟨_, hk⟩ := eks_mem e v hv; quiet_ek hk q) h
end
noncomputable def nkind (prog : Program) (w : World) : HeapKind prog w (List EK) where
  is := IsNK
  hash := hashN w prog
  draws := fun ks => drawsL ks + 1
  room := fun A => A.units + 3 < cLine
  inj := fun hx hy => hx.inj hy
  keeps := fun x ho hd hs => x.keeps fun b us g => (hs.2 b (fun z => by rw [z, ho] at g; cases g; cases hd)).trans g
  pyHash := fun hu hk h => nk_hash hu hk h
  eqBool := fun hu hx hy h => nk_eq hu hx hy h
  quiet := fun hk h => nk_quiet hk h
end
section
open PySem PySem.W PySem.Calls PyProof.Rows
set_option genInjectivity false in
set_option genSizeOfSpec false in
structure BA where
  bk : Nat
  bd : Nat
  sn : Nat
  sw : Nat
  fn : Nat
  fa : Nat
  fr : Nat
  to : Nat
  ta : Nat
  ts : Nat
  td : Nat
  nu : Nat
  bv : Nat
  k : Nat → Tok
  n : Nat
noncomputable abbrev ent (P : Params) (x : String) (t : Tok) (v : Value) : DictEntry := ⟨PyData.keyHash P (Str.ofString x), .str (Str.ofString x) t, v⟩
noncomputable abbrev bankDict (P : Params) (c : BA) : Obj := dictOf [ent P "sort_names" (c.k 0) (.ref c.sn), ent P "sort_widths" (c.k 1) (.ref c.sw), ent P "fun_names" (c.k 2) (.ref c.fn), ent P "fun_args" (c.k 3) (.ref c.fa), ent P "fun_results" (c.k 4) (.ref c.fr), ent P "fresh_count" (c.k 5) (.int 0 (c.k 6)),
  ent P "term_ops" (c.k 7) (.ref c.to), ent P "term_args" (c.k 8) (.ref c.ta), ent P "term_sorts" (c.k 9) (.ref c.ts), ent P "term_datas" (c.k 10) (.ref c.td), ent P "numbers" (c.k 11) (.ref c.nu), ent P "true_number" (c.k 12) (.int 1 (c.k 13)), ent P "false_number" (c.k 14) (.int 2 (c.k 15)), ent P "bv_numbers" (c.k 16) (.ref c.bv)] c.n
/-- a key's parts, seen in a ledger -/
noncomputable def EKin (W : List (Addr × Obj)) : EK → Value → Prop
  | .s x, v => ∃ t, v = .str x t ∧ PyData.strOk x = true
  | .i n, v => ∃ t, v = .int n t
  | .t l, v => ∃ b us, v = .ref b ∧ (b, tupO us) ∈ W ∧ IntsAre us l
inductive EKsIn (W : List (Addr × Obj)) : List EK → List Value → Prop
  | nil : EKsIn W [] []
  | cons {k ks v vs} : EKin W k v → EKsIn W ks vs → EKsIn W (k :: ks) (v :: vs)
noncomputable def NKin (W : List (Addr × Obj)) (ks : List EK) (a : Addr) : Prop := ∃ vs, (a, tupO vs) ∈ W ∧ EKsIn W ks vs
theorem EKin.monoT {W W' : List (Addr × Obj)} (hs : ∀ a us, (a, tupO us) ∈ W → (a, tupO us) ∈ W') {v : Value} {k : EK} (x : EKin W k v) : EKin W' k v := by
  cases k with
  | t _ => obtain ⟨b, us, e, g, i⟩ := x; exact ⟨b, us, e, hs _ _ g, i⟩
  | _ => exact x
theorem EKsIn.monoT {W W' : List (Addr × Obj)} (hs : ∀ a us, (a, tupO us) ∈ W → (a, tupO us) ∈ W') {ks : List EK} {vs : List Value} (x : EKsIn W ks vs) : EKsIn W' ks vs := by
  induction x with
  | nil => exact .nil
  | cons a _ ih => exact .cons (a.monoT hs) ih
theorem EKin.mono {W W' : List (Addr × Obj)} (hs : ∀ p ∈ W, p ∈ W') {v : Value} {k : EK} (x : EKin W k v) : EKin W' k v := x.monoT fun _ _ h => hs _ h
theorem EKsIn.mono {W W' : List (Addr × Obj)} (hs : ∀ p ∈ W, p ∈ W') {ks : List EK} {vs : List Value} (x : EKsIn W ks vs) : EKsIn W' ks vs := x.monoT fun _ _ h => hs _ h
theorem NKin.mono {W W' : List (Addr × Obj)} (hs : ∀ p ∈ W, p ∈ W') {ks : List EK} {a : Addr} : NKin W ks a → NKin W' ks a
  | ⟨vs, g, e⟩ => ⟨vs, hs _ g, e.mono hs⟩
theorem EKin.at {W : List (Addr × Obj)} {h : Heap} (hN : ∀ p ∈ W, h.get? p.1 = some p.2) {v : Value} {k : EK} (x : EKin W k v) : IsEK h k v := by
  cases k with
  | t _ => obtain ⟨b, us, e, g, i⟩ := x; exact ⟨b, us, e, hN _ g, i⟩
  | _ => exact x
theorem EKsIn.at {W : List (Addr × Obj)} {h : Heap} (hN : ∀ p ∈ W, h.get? p.1 = some p.2) {ks : List EK} {vs : List Value} (x : EKsIn W ks vs) : AreEK h ks vs := by
  induction x with
  | nil => exact .nil
  | cons a _ ih => exact .cons (a.at hN) ih
theorem NKin.at {W : List (Addr × Obj)} {h : Heap} (hN : ∀ p ∈ W, h.get? p.1 = some p.2) {ks : List EK} {a : Addr} : NKin W ks a → IsNK h ks a
  | ⟨vs, g, e⟩ => ⟨vs, hN _ g, e.at hN⟩
/-- a dict by tuples, as an object; its keys lie in the ledger W -/
structure NuIs (prog : Program) (w : World) (W : List (Addr × Obj)) (o : Obj) (xs : List (List EK × Addr × Value)) : Prop where
  exact : o.ExactDict
  ents : ∃ es ep, o.data = .dict es ep ∧ es.toList = xs.map (entryOfKey (nkind prog w))
  keys : ∀ x ∈ xs, NKin W x.1 x.2.1
  nodup : (xs.map (·.1)).Nodup
theorem NuIs.mono {prog : Program} {w : World} {W W' : List (Addr × Obj)} {o : Obj} {xs : List (List EK × Addr × Value)} (hs : ∀ p ∈ W, p ∈ W') (x : NuIs prog w W o xs) : NuIs prog w W' o xs :=
  ⟨x.exact, x.ents, fun y hy => (x.keys y hy).mono hs, x.nodup⟩
theorem NuIs.at {prog : Program} {w : World} {W : List (Addr × Obj)} {o : Obj} {xs : List (List EK × Addr × Value)} {h : Heap} {d : Addr} (x : NuIs prog w W o xs) (hd : h.get? d = some o) (hN : ∀ p ∈ W, h.get? p.1 = some p.2) : h.DictOfH (nkind prog w) d xs :=
  let ⟨es, ep, e1, e2⟩ := x.ents
  ⟨o, es, ep, hd, x.exact, e1, e2, fun y hy => (x.keys y hy).at hN, x.nodup⟩
section
variable {prog : Program} {w : World} {A : Around} {E : Value → Shared → Prop} {s : Shared} {h₀ : Heap} {L d a : Addr} {m : Str → Option Value} {news W : List (Addr × Obj)} {o : Obj} {xs : List (List EK × Addr × Value)} {ks : List EK}
theorem nu_method {name : Str} {id : String} {pl : Sem Bool} {Q : Value × List Value → Shared → Prop} (slot : Slot "dict" name id) (ty : typeOf (.builtin id) = pure (.type "method_descriptor")) (N : News h₀ L s.heap news) (hm : (d, o) ∈ news) (x : NuIs prog w W o xs) (h : Q (.builtin id, [.ref d]) s) :
    wpAny (model prog w) A (getMethod (.ref d) name pl) Q E s :=
  getMethod_builtin ⟨o, (N _ hm).1, x.exact.1⟩ PySem.F.plainAttrs_dict slot ty (fun b e => by cases e; exact ⟨o, (N _ hm).1, x.exact.2.1⟩) h
theorem nu_get {dflt : Value} {Q : Value → Shared → Prop} (hu : A.units + 5 < cLine) (N : News h₀ L s.heap news) (hm : (d, o) ∈ news) (x : NuIs prog w W o xs) (hW : ∀ p ∈ W, p ∈ news) (hk : NKin news ks a) (lo : (d == sysModules) = false)
    (h : ∀ tk, Q (((atKey xs ks).map (·.2)).getD dflt) { s with toks := tk }) : wpAny (model prog w) A (call (.builtin "dict.get") [.ref d, .ref a, dflt]) Q E s := by
  have hN : ∀ p ∈ news, s.heap.get? p.1 = some p.2 := fun p hp => (N p hp).1
  have hD := (x.mono hW).at (hN _ hm) hN
  exact call_meetsIn PySem.F.slot_dict_get hD.typeIs PySem.F.entry_dict_get (PySem.F.args_dict_get_3 _ _ _) (meetsH_dict_get_default (nkind prog w) d a lo dflt) ⟨by show A.in1.units + 3 < cLine; show A.units + 1 + 3 < cLine; omega, ks, xs, hk.at hN, hD, h _⟩
theorem nu_in {Q : Value → Shared → Prop} (hu : A.units + 5 < cLine) (N : News h₀ L s.heap news) (hm : (d, o) ∈ news) (x : NuIs prog w W o xs) (hW : ∀ p ∈ W, p ∈ news) (hk : NKin news ks a) (lo : (d == sysModules) = false)
    (h : ∀ tk, Q (.bool (atKey xs ks).isSome) { s with toks := tk }) : wpAny (model prog w) A (compareOp .In (.ref a) (.ref d)) Q E s := by
  have hN : ∀ p ∈ news, s.heap.get? p.1 = some p.2 := fun p hp => (N p hp).1
  exact wpAny_in_heap (knd := nkind prog w) (by show A.units + 1 + 3 < cLine; omega) (hk.at hN) lo ((x.mono hW).at (hN _ hm) hN) (h _)
theorem nu_item {value slice : PySem.Expr} {p : Addr × Value} {Q : Value → Shared → Prop} (hu : A.units + 5 < cLine) (N : News h₀ L s.heap news) (hm : (d, o) ∈ news) (x : NuIs prog w W o xs) (hW : ∀ p ∈ W, p ∈ news) (hk : NKin news ks a) (hp : atKey xs ks = some p)
    (h : ∀ tk, Q p.2 { s with toks := tk }) (hs : subscripted slice false (.ref d) (.ref a) = operate [.ref d, .ref a] (getItem (.ref d) (.ref a)) := by with_unfolding_all rfl) (hg : ∀ r, letTemporaryGo value (.ref d) r = pure () := by intro _; with_unfolding_all rfl) :
    wpAny (model prog w) A (subscriptTail value slice (.ref d) (.ref a)) Q E s := by
  have hN : ∀ p ∈ news, s.heap.get? p.1 = some p.2 := fun p hp => (N p hp).1
  have hD := (x.mono hW).at (hN _ hm) hN
  exact subscriptTail_builtin hD.typeIs slot_dict_getitem.lookup (wpAny_getItem_heap (knd := nkind prog w) (by show A.units + 1 + 3 < cLine; omega) (hk.at hN) hD hp (h _)) hs hg
theorem nu_set {pre post Y : List (Addr × Obj)} {v : Value} {Q : Unit → Shared → Prop} (hu : A.units + 5 < cLine) (F : Fr h₀ L s.heap m) (N : News h₀ L s.heap (pre ++ (d, o) :: post)) (h1 : ∀ p ∈ pre, p.1 ≠ d) (h2 : ∀ p ∈ post, p.1 ≠ d)
    (x : NuIs prog w W o xs) (hW : ∀ p ∈ W, p ∈ Y) (hY : ∀ p ∈ Y, p ∈ pre ++ post) (hk : NKin Y ks a) (hsz : xs.length ≤ 1000)
    (h : ∀ h' o' tk, Fr h₀ L h' m → News h₀ L h' (pre ++ (d, o') :: post) → NuIs prog w Y o' (storedH xs ks a v) → Q () { s with heap := h', toks := tk }) :
    wpAny (model prog w) A (setItem (.ref d) (.ref a) v) Q E s := by
  have hm : (d, o) ∈ pre ++ (d, o) :: post := by simp
  have hpp : ∀ p ∈ Y, p ∈ pre ++ (d, o) :: post := fun p hp => by
    rcases List.mem_append.mp (hY p hp) with hp | hp
    · exact List.mem_append_left _ hp
    · exact List.mem_append_right _ (.tail _ hp)
  have hN : ∀ p ∈ pre ++ (d, o) :: post, s.heap.get? p.1 = some p.2 := fun p hp => (N p hp).1
  have hD := (x.mono fun p hp => hpp p (hW p hp)).at (hN _ hm) hN
  refine wpAny_setItem_heap (knd := nkind prog w) (by show A.units + 1 + 3 < cLine; omega) ((hk.mono hpp).at hN) hD (fun h' hm' hs => ?_) (by rw [sizeLine_eq]; omega)
  obtain ⟨o', es', ep', ho', hc', hd', he', _, hn'⟩ := hm'
  refine h h' o' _ (F.change hs (N _ hm).2.1 (N _ hm).2.2) (N.setIn h1 h2 hs ho') ⟨hc', ⟨es', ep', hd', he'⟩, fun y hy => ?_, hn'⟩
  rcases mem_storedH hy with ⟨z, hz, e1, e2⟩ | ⟨e1, e2⟩
  · rw [e1, e2]; exact (x.keys z hz).mono hW
  · rw [e1, e2]; exact hk
end
end
section
open PySem PySem.W PySem.Calls PyProof.Rows
theorem sub_nil {α : Type} {L : List α} : ∀ p ∈ ([] : List α), p ∈ L := fun _ h => nomatch h
theorem sub_cons {α : Type} {L l : List α} {x : α} (h : x ∈ L) (t : ∀ p ∈ l, p ∈ L) : ∀ p ∈ x :: l, p ∈ L := List.forall_mem_cons.mpr ⟨h, t⟩
theorem ne_cons {a b : Addr} {o : Obj} {l : List (Addr × Obj)} (h : b ≠ a) (t : ∀ p ∈ l, p.1 ≠ a) : ∀ p ∈ (b, o) :: l, p.1 ≠ a := List.forall_mem_cons.mpr ⟨h, t⟩
theorem all_cons {α : Type} {P : α → Prop} {l : List α} {x : α} (h : P x) (t : ∀ p ∈ l, P p) : ∀ p ∈ x :: l, P p := List.forall_mem_cons.mpr ⟨h, t⟩
theorem mem0 {α : Type} {a : α} {l : List α} : a ∈ a :: l := .head _
theorem mem1 {α : Type} {a : α} {x0 : α} {l : List α} : a ∈ x0 :: a :: l := .tail _ (.head _)
theorem in1 {α : Type} {x0 : α} {l : List α} : ∀ p ∈ l, p ∈ x0 :: l := fun _ h => .tail _ (h)
theorem mem2 {α : Type} {a : α} {x0 x1 : α} {l : List α} : a ∈ x0 :: x1 :: a :: l := .tail _ (.tail _ (.head _))
theorem in2 {α : Type} {x0 x1 : α} {l : List α} : ∀ p ∈ l, p ∈ x0 :: x1 :: l := fun _ h => .tail _ (.tail _ (h))
theorem mem3 {α : Type} {a : α} {x0 x1 x2 : α} {l : List α} : a ∈ x0 :: x1 :: x2 :: a :: l := .tail _ (.tail _ (.tail _ (.head _)))
theorem in3 {α : Type} {x0 x1 x2 : α} {l : List α} : ∀ p ∈ l, p ∈ x0 :: x1 :: x2 :: l := fun _ h => .tail _ (.tail _ (.tail _ (h)))
theorem mem4 {α : Type} {a : α} {x0 x1 x2 x3 : α} {l : List α} : a ∈ x0 :: x1 :: x2 :: x3 :: a :: l := .tail _ (.tail _ (.tail _ (.tail _ (.head _))))
theorem in4 {α : Type} {x0 x1 x2 x3 : α} {l : List α} : ∀ p ∈ l, p ∈ x0 :: x1 :: x2 :: x3 :: l := fun _ h => .tail _ (.tail _ (.tail _ (.tail _ (h))))
theorem mem5 {α : Type} {a : α} {x0 x1 x2 x3 x4 : α} {l : List α} : a ∈ x0 :: x1 :: x2 :: x3 :: x4 :: a :: l := .tail _ (.tail _ (.tail _ (.tail _ (.tail _ (.head _)))))
theorem in5 {α : Type} {x0 x1 x2 x3 x4 : α} {l : List α} : ∀ p ∈ l, p ∈ x0 :: x1 :: x2 :: x3 :: x4 :: l := fun _ h => .tail _ (.tail _ (.tail _ (.tail _ (.tail _ (h)))))
theorem mem6 {α : Type} {a : α} {x0 x1 x2 x3 x4 x5 : α} {l : List α} : a ∈ x0 :: x1 :: x2 :: x3 :: x4 :: x5 :: a :: l := .tail _ (.tail _ (.tail _ (.tail _ (.tail _ (.tail _ (.head _))))))
theorem in6 {α : Type} {x0 x1 x2 x3 x4 x5 : α} {l : List α} : ∀ p ∈ l, p ∈ x0 :: x1 :: x2 :: x3 :: x4 :: x5 :: l := fun _ h => .tail _ (.tail _ (.tail _ (.tail _ (.tail _ (.tail _ (h))))))
theorem mem7 {α : Type} {a : α} {x0 x1 x2 x3 x4 x5 x6 : α} {l : List α} : a ∈ x0 :: x1 :: x2 :: x3 :: x4 :: x5 :: x6 :: a :: l := .tail _ (.tail _ (.tail _ (.tail _ (.tail _ (.tail _ (.tail _ (.head _)))))))
theorem in7 {α : Type} {x0 x1 x2 x3 x4 x5 x6 : α} {l : List α} : ∀ p ∈ l, p ∈ x0 :: x1 :: x2 :: x3 :: x4 :: x5 :: x6 :: l := fun _ h => .tail _ (.tail _ (.tail _ (.tail _ (.tail _ (.tail _ (.tail _ (h)))))))
theorem mem8 {α : Type} {a : α} {x0 x1 x2 x3 x4 x5 x6 x7 : α} {l : List α} : a ∈ x0 :: x1 :: x2 :: x3 :: x4 :: x5 :: x6 :: x7 :: a :: l := .tail _ (.tail _ (.tail _ (.tail _ (.tail _ (.tail _ (.tail _ (.tail _ (.head _))))))))
theorem in8 {α : Type} {x0 x1 x2 x3 x4 x5 x6 x7 : α} {l : List α} : ∀ p ∈ l, p ∈ x0 :: x1 :: x2 :: x3 :: x4 :: x5 :: x6 :: x7 :: l := fun _ h => .tail _ (.tail _ (.tail _ (.tail _ (.tail _ (.tail _ (.tail _ (.tail _ (h))))))))
theorem mem9 {α : Type} {a : α} {x0 x1 x2 x3 x4 x5 x6 x7 x8 : α} {l : List α} : a ∈ x0 :: x1 :: x2 :: x3 :: x4 :: x5 :: x6 :: x7 :: x8 :: a :: l := .tail _ (.tail _ (.tail _ (.tail _ (.tail _ (.tail _ (.tail _ (.tail _ (.tail _ (.head _)))))))))
theorem in9 {α : Type} {x0 x1 x2 x3 x4 x5 x6 x7 x8 : α} {l : List α} : ∀ p ∈ l, p ∈ x0 :: x1 :: x2 :: x3 :: x4 :: x5 :: x6 :: x7 :: x8 :: l := fun _ h => .tail _ (.tail _ (.tail _ (.tail _ (.tail _ (.tail _ (.tail _ (.tail _ (.tail _ (h)))))))))
theorem mem10 {α : Type} {a : α} {x0 x1 x2 x3 x4 x5 x6 x7 x8 x9 : α} {l : List α} : a ∈ x0 :: x1 :: x2 :: x3 :: x4 :: x5 :: x6 :: x7 :: x8 :: x9 :: a :: l := .tail _ (.tail _ (.tail _ (.tail _ (.tail _ (.tail _ (.tail _ (.tail _ (.tail _ (.tail _ (.head _))))))))))
theorem in10 {α : Type} {x0 x1 x2 x3 x4 x5 x6 x7 x8 x9 : α} {l : List α} : ∀ p ∈ l, p ∈ x0 :: x1 :: x2 :: x3 :: x4 :: x5 :: x6 :: x7 :: x8 :: x9 :: l := fun _ h => .tail _ (.tail _ (.tail _ (.tail _ (.tail _ (.tail _ (.tail _ (.tail _ (.tail _ (.tail _ (h))))))))))
theorem mem11 {α : Type} {a : α} {x0 x1 x2 x3 x4 x5 x6 x7 x8 x9 x10 : α} {l : List α} : a ∈ x0 :: x1 :: x2 :: x3 :: x4 :: x5 :: x6 :: x7 :: x8 :: x9 :: x10 :: a :: l := .tail _ (.tail _ (.tail _ (.tail _ (.tail _ (.tail _ (.tail _ (.tail _ (.tail _ (.tail _ (.tail _ (.head _)))))))))))
theorem in11 {α : Type} {x0 x1 x2 x3 x4 x5 x6 x7 x8 x9 x10 : α} {l : List α} : ∀ p ∈ l, p ∈ x0 :: x1 :: x2 :: x3 :: x4 :: x5 :: x6 :: x7 :: x8 :: x9 :: x10 :: l := fun _ h => .tail _ (.tail _ (.tail _ (.tail _ (.tail _ (.tail _ (.tail _ (.tail _ (.tail _ (.tail _ (.tail _ (h)))))))))))
theorem mem12 {α : Type} {a : α} {x0 x1 x2 x3 x4 x5 x6 x7 x8 x9 x10 x11 : α} {l : List α} : a ∈ x0 :: x1 :: x2 :: x3 :: x4 :: x5 :: x6 :: x7 :: x8 :: x9 :: x10 :: x11 :: a :: l := .tail _ (.tail _ (.tail _ (.tail _ (.tail _ (.tail _ (.tail _ (.tail _ (.tail _ (.tail _ (.tail _ (.tail _ (.head _))))))))))))
theorem in12 {α : Type} {x0 x1 x2 x3 x4 x5 x6 x7 x8 x9 x10 x11 : α} {l : List α} : ∀ p ∈ l, p ∈ x0 :: x1 :: x2 :: x3 :: x4 :: x5 :: x6 :: x7 :: x8 :: x9 :: x10 :: x11 :: l := fun _ h => .tail _ (.tail _ (.tail _ (.tail _ (.tail _ (.tail _ (.tail _ (.tail _ (.tail _ (.tail _ (.tail _ (.tail _ (h))))))))))))
theorem mem13 {α : Type} {a : α} {x0 x1 x2 x3 x4 x5 x6 x7 x8 x9 x10 x11 x12 : α} {l : List α} : a ∈ x0 :: x1 :: x2 :: x3 :: x4 :: x5 :: x6 :: x7 :: x8 :: x9 :: x10 :: x11 :: x12 :: a :: l := .tail _ (.tail _ (.tail _ (.tail _ (.tail _ (.tail _ (.tail _ (.tail _ (.tail _ (.tail _ (.tail _ (.tail _ (.tail _ (.head _)))))))))))))
theorem in13 {α : Type} {x0 x1 x2 x3 x4 x5 x6 x7 x8 x9 x10 x11 x12 : α} {l : List α} : ∀ p ∈ l, p ∈ x0 :: x1 :: x2 :: x3 :: x4 :: x5 :: x6 :: x7 :: x8 :: x9 :: x10 :: x11 :: x12 :: l := fun _ h => .tail _ (.tail _ (.tail _ (.tail _ (.tail _ (.tail _ (.tail _ (.tail _ (.tail _ (.tail _ (.tail _ (.tail _ (.tail _ (h)))))))))))))
theorem mem14 {α : Type} {a : α} {x0 x1 x2 x3 x4 x5 x6 x7 x8 x9 x10 x11 x12 x13 : α} {l : List α} : a ∈ x0 :: x1 :: x2 :: x3 :: x4 :: x5 :: x6 :: x7 :: x8 :: x9 :: x10 :: x11 :: x12 :: x13 :: a :: l := .tail _ (.tail _ (.tail _ (.tail _ (.tail _ (.tail _ (.tail _ (.tail _ (.tail _ (.tail _ (.tail _ (.tail _ (.tail _ (.tail _ (.head _))))))))))))))
theorem in14 {α : Type} {x0 x1 x2 x3 x4 x5 x6 x7 x8 x9 x10 x11 x12 x13 : α} {l : List α} : ∀ p ∈ l, p ∈ x0 :: x1 :: x2 :: x3 :: x4 :: x5 :: x6 :: x7 :: x8 :: x9 :: x10 :: x11 :: x12 :: x13 :: l := fun _ h => .tail _ (.tail _ (.tail _ (.tail _ (.tail _ (.tail _ (.tail _ (.tail _ (.tail _ (.tail _ (.tail _ (.tail _ (.tail _ (.tail _ (h))))))))))))))
theorem dle {d a b : Nat} (h : d ≤ a) (k : Nat.ble (a + 1) b = true) : d + 1 ≤ b := Nat.le_trans (Nat.succ_le_succ h) (Nat.le_of_ble_eq_true k)
theorem ule {u a b : Nat} (h : u ≤ a) (k : Nat.ble (a + 3) b = true) : u + 3 ≤ b := Nat.le_trans (Nat.add_le_add_right h 3) (Nat.le_of_ble_eq_true k)
theorem rr0 {d a : Nat} (h : d ≤ a) (k : Nat.blt a 1000 = true) : d < recursionLimit := Nat.lt_of_le_of_lt h (Nat.le_of_ble_eq_true k)
theorem rr1 {d a : Nat} (h : d ≤ a) (k : Nat.blt (a + 1) 1000 = true) : d + 1 < recursionLimit := Nat.lt_of_le_of_lt (Nat.succ_le_succ h) (Nat.le_of_ble_eq_true k)
theorem uu3 {u a : Nat} (h : u ≤ a) (k : Nat.blt (a + 3 + 64) 9900 = true) : u + 3 + 64 < cLine := Nat.lt_of_le_of_lt (Nat.add_le_add_right (Nat.add_le_add_right h 3) 64) (Nat.le_of_ble_eq_true k)
/-! bounds without omega: what the line on omega tries first -/
theorem kk0 {k : Int} {lap : Nat} (h : k ≤ 10 + 10 * lap) (hl : lap ≤ 50) : k ≤ 510 :=
  Int.le_trans h (Int.le_trans (Int.add_le_add_left (Int.mul_le_mul_of_nonneg_left (Int.ofNat_le.mpr hl) (by decide)) 10) (by decide))
theorem kk1 {k : Int} {lap : Nat} (h : k ≤ 10 + 10 * lap + 3) (hl : lap ≤ 50) : k ≤ 513 := Int.le_trans h (Int.le_trans (Int.add_le_add_right (kk0 (Int.le_refl _) hl) 3) (by decide))
theorem y7 {y : Int} : y + 3 + 2 + 2 ≤ y + 10 := by rw [Int.add_assoc, Int.add_assoc]; exact Int.add_le_add_left (by decide) y
theorem kk2 {k k7 k8 : Int} {lap : Nat} (h : k ≤ 10 + 10 * lap + 3) (h7 : k7 ≤ k + 2) (h8 : k8 ≤ k7 + 2) : k8 ≤ 10 + 10 * ((lap + 1 : Nat) : Int) := by
  rw [show (10 : Int) + 10 * ((lap + 1 : Nat) : Int) = 10 + 10 * (lap : Int) + 10 from by rw [Int.natCast_succ, Int.mul_add, ← Int.add_assoc]; rfl]
  exact Int.le_trans h8 (Int.le_trans (Int.add_le_add_right (Int.le_trans h7 (Int.add_le_add_right h 2)) 2) y7)
theorem kk3 {k k8 : Int} {lap : Nat} (h : k ≤ 10 + 10 * lap + 3) (h8 : k8 ≤ k + 2) : k8 ≤ 10 + 10 * ((lap + 1 : Nat) : Int) := kk2 h (Int.le_add_of_nonneg_right (by decide)) h8
theorem icl {x y c a m : Int} (h : x ≤ y + c) (h2 : y ≤ a) (e : a + c ≤ m) : x ≤ m := Int.le_trans h (Int.le_trans (Int.add_le_add_right h2 c) e)
theorem ilt2 {x b : Int} {n a : Nat} (h : x < n) (h2 : n ≤ a) (e : (a : Int) ≤ b) : x < b := Int.lt_of_lt_of_le h (Int.le_trans (Int.ofNat_le.mpr h2) e)
theorem slen {a b : Str} {m n k : Nat} (ha : a.length ≤ m) (hb : b.length ≤ n) (e : Nat.ble (m + n) k = true) : (a ++ b).length ≤ k := by rw [Str.length_append]; exact Nat.le_trans (Nat.add_le_add ha hb) (Nat.le_of_ble_eq_true e)
theorem sol {x : Int} {n : Nat} (h : x.toNat < n) (h2 : n ≤ 900) : x < 100000 := Int.lt_of_le_of_lt (Int.self_le_toNat x) (Int.ofNat_lt.mpr (Nat.lt_of_lt_of_le h (Nat.le_trans h2 (by decide))))
theorem rl9 {r : Int} {n : Nat} (h : r = n - 1) (h2 : n ≤ 900) : r < 100000 := by rw [h]; exact Int.lt_of_lt_of_le (Int.sub_lt_self _ (by decide)) (Int.le_trans (Int.ofNat_le.mpr h2) (by decide))
theorem tn0 {n : Nat} : ((n : Int) - 0).toNat = n := by rw [Int.sub_zero, Int.toNat_natCast]
theorem tlt {x : Int} {n : Nat} (h0 : 0 ≤ x) (h : x < n) : x.toNat < n := (Int.toNat_lt h0).mpr h
theorem rr2 {d a : Nat} (h : d ≤ a) (k : Nat.blt (a + 2) 1000 = true) : d + 1 + 1 < recursionLimit := Nat.lt_of_le_of_lt (Nat.add_le_add_right h 2) (Nat.le_of_ble_eq_true k)
theorem rr3 {d a : Nat} (h : d ≤ a) (k : Nat.blt (a + 3) 1000 = true) : d + 1 + 1 + 1 < recursionLimit := Nat.lt_of_le_of_lt (Nat.add_le_add_right h 3) (Nat.le_of_ble_eq_true k)
theorem uu5 {u a : Nat} (h : u ≤ a) (k : Nat.blt (a + 3 + 5) 9900 = true) : u + 3 + 5 < cLine := Nat.lt_of_le_of_lt (Nat.add_le_add_right (Nat.add_le_add_right h 3) 5) (Nat.le_of_ble_eq_true k)
theorem four {r : Int} (h0 : 0 ≤ r) (h : r ≤ 3) : r = 0 ∨ r = 1 ∨ r = 2 ∨ r = 3 := by
  obtain ⟨n, rfl⟩ := Int.eq_ofNat_of_zero_le h0
  exact (by decide : ∀ n : Fin 4, ((n.1 : Nat) : Int) = 0 ∨ ((n.1 : Nat) : Int) = 1 ∨ ((n.1 : Nat) : Int) = 2 ∨ ((n.1 : Nat) : Int) = 3) ⟨n, Nat.lt_succ_of_le (Int.ofNat_le.mp h)⟩
theorem two {r : Int} (h0 : 0 ≤ r) (h : r < 2) : r = 0 ∨ r = 1 := by
  obtain ⟨n, rfl⟩ := Int.eq_ofNat_of_zero_le h0
  exact (by decide : ∀ n : Fin 2, ((n.1 : Nat) : Int) = 0 ∨ ((n.1 : Nat) : Int) = 1) ⟨n, Int.ofNat_lt.mp h⟩
theorem q_nle {a b : Nat} (h : a ≤ b) : a ≤ b := h
theorem q_nlt {a b : Nat} (h : a < b) : a < b := h
theorem q_ile {a b : Int} (h : a ≤ b) : a ≤ b := h
theorem q_ilt {a b : Int} (h : a < b) : a < b := h
theorem nle {x a b : Nat} (h : x ≤ a) (e : a ≤ b) : x ≤ b := Nat.le_trans h e
theorem ngt {x a b : Nat} (h : a ≤ x) (e : b < a) : b < x := Nat.lt_of_lt_of_le e h
theorem nls {x y m : Nat} (h : x ≤ y + 1) (e : y + 1 ≤ m) : x ≤ m := Nat.le_trans h e
theorem nlk {x y k m : Nat} (h : x ≤ y + 1) (e : y + (k + 1) ≤ m) : x + k ≤ m := Nat.le_trans (Nat.add_le_add_right h k) (by rw [Nat.add_assoc, Nat.add_comm 1]; exact e)
theorem nle1 {x a k b : Nat} (h : x ≤ a) (e : a + k ≤ b) : x + k ≤ b := Nat.le_trans (Nat.add_le_add_right h k) e
theorem nla {x c y a m : Nat} (h : x ≤ c + y) (h2 : y ≤ a) (e : c + a ≤ m) : x ≤ m := Nat.le_trans h (Nat.le_trans (Nat.add_le_add_left h2 c) e)
theorem nleq {x y m : Nat} (h : x = y) (e : y ≤ m) : x ≤ m := h ▸ e
theorem ile {x a b : Int} (h : x ≤ a) (e : a ≤ b) : x ≤ b := Int.le_trans h e
theorem ilt {x a b : Int} (h : x ≤ a) (e : a < b) : x < b := Int.lt_of_le_of_lt h e
theorem illt {x a b : Int} (h : x < a) (e : a ≤ b) : x < b := Int.lt_of_lt_of_le h e
theorem ille {x a b : Int} (h : x < a) (e : a ≤ b) : x ≤ b := Int.le_of_lt (illt h e)
theorem ige {x a b : Int} (h : a ≤ x) (e : b ≤ a) : b ≤ x := Int.le_trans e h
theorem igt {x a b : Int} (h : a ≤ x) (e : b < a) : b < x := Int.lt_of_lt_of_le e h
theorem iad {a b : Int} (h : 0 ≤ a) (e : 0 ≤ b) : 0 ≤ a + b := Int.add_nonneg h e
theorem iad2 {a b c : Int} (h : 0 ≤ a) (e : 0 ≤ b + c) : 0 ≤ a + b + c := Int.add_assoc a b c ▸ Int.add_nonneg h e
theorem ila {x a k b : Int} (h : x ≤ a) (e : a + k ≤ b) : x + k ≤ b := Int.le_trans (Int.add_le_add_right h k) e
theorem inn {n : Nat} : (0 : Int) ≤ n := Int.natCast_nonneg n
section
variable {α : Type} {v : List α} {x y : α} {i n : Nat}
theorem ap_l (h : v[i]? = some y) : (v ++ [x])[i]? = some y := by rw [List.getElem?_append_left (List.getElem?_eq_some_iff.mp h).1]; exact h
theorem ap_r (h : v.length = n) : (v ++ [x])[n]? = some x := by subst h; exact List.getElem?_concat_length
theorem ap_cut (h : (v ++ [x])[i]? = some y) : v[i]? = some y ∨ (i = v.length ∧ y = x) := by
  rw [List.getElem?_append] at h
  split at h
  · exact .inl h
  · rename_i hlt
    have e := (List.getElem?_eq_some_iff.mp h).1
    rw [List.length_singleton] at e
    have z : i - v.length = 0 := Nat.lt_one_iff.mp e
    rw [z] at h
    exact .inr ⟨Nat.le_antisymm (Nat.le_of_sub_eq_zero z) (Nat.le_of_not_lt hlt), (Option.some.inj h).symm⟩
theorem len_s (h : v.length = n) : (v ++ [x]).length = n + 1 := by subst h; exact List.length_append
theorem len_ge (h : n ≤ v.length) : n ≤ (v ++ [x]).length := Nat.le_trans h (Nat.le_trans (Nat.le_succ _) (Nat.le_of_eq (len_s rfl).symm))
end
end
section
open PySem PySem.W PySem.Calls PyProof.Rows
noncomputable abbrev LO (vs : List Value) (n : Nat) : Obj := PySem.W.listOf vs.toArray n
section
variable {prog : Program} {w : World} {A : Around} {E : Value → Shared → Prop} {s : Shared} {h₀ : Heap} {L l : Addr} {m : Str → Option Value} {news news' : List (Addr × Obj)} {vs : List Value} {n : Nat}
theorem len_LO {Q : Value → Shared → Prop} (N : News h₀ L s.heap news) (hm : (l, PySem.W.listOf vs.toArray n) ∈ news) (hz : vs.length ≤ 100000) (h : ∀ t tk, Q (.int vs.length t) { s with toks := tk }) : wpAny (model prog w) A (call (.builtin "len") [.ref l]) Q E s :=
  len_list (News.isList N hm) (by simp; omega) (by simpa using h _ _)
theorem append_LO {x : Value} {Q : Value → Shared → Prop} (F : Fr h₀ L s.heap m) (N : News h₀ L s.heap news) (U : Upd l (PySem.W.listOf vs.toArray n) (PySem.W.listOf (vs ++ [x]).toArray (n + 1)) news news')
    (hz : vs.length ≤ 100000) (h : ∀ h', Fr h₀ L h' m → News h₀ L h' news' → Q .none { s with heap := h' }) : wpAny (model prog w) A (call (.builtin "list.append") [.ref l, x]) Q E s :=
  have e : vs.toArray.push x = (vs ++ [x]).toArray := by simp
  append_K F N (by rw [e]; exact U) h (by rw [sizeLine_eq, List.size_toArray]; omega)
theorem item_LO {value slice : PySem.Expr} {k : Int} {u : Tok} {v : Value} {Q : Value → Shared → Prop}
    (N : News h₀ L s.heap news) (hm : (l, PySem.W.listOf vs.toArray n) ∈ news) (hx : vs[k.toNat]? = some v) (h0 : 0 ≤ k) (hhi : k < 2 ^ 63) (h : Q v s)
    (hs : subscripted slice false (.ref l) (.int k u) = operate [.ref l, .int k u] (getItem (.ref l) (.int k u)) := by with_unfolding_all rfl) :
    wpAny (model prog w) A (subscriptTail value slice (.ref l) (.int k u)) Q E s :=
  tail_any (News.isList N hm).typeIs slot_list_getitem.lookup (wpAny_getItem_list (News.isList N hm) h0 hhi (by simpa using hx) h) hs
theorem newTup_L {vs : List Value} {Q : Value → Shared → Prop} (F : Fr h₀ L s.heap m) (N : News h₀ L s.heap news) (hz : vs.length ≤ 1000)
    (h : ∀ D h', Fr h₀ L h' m → News h₀ L h' ((D, tupO vs) :: news) → (∀ p ∈ news, p.1 < D) → Q (.ref D) { s with heap := h' }) : wpAny (model prog w) A (newTuple vs) Q E s :=
  newTuple_N F N (fun h' F' N' => h _ h' F' N' fun p hp => Heap.lt_size (N p hp).1) (by rw [sizeLine_eq]; omega)
theorem News.mid {h : Heap} {x : Addr × Obj} {l Z : List (Addr × Obj)} (N : News h₀ L h (x :: (l ++ Z))) : News h₀ L h (l ++ x :: Z) := fun p hp => N p (by
  rcases List.mem_append.mp hp with hp | hp
  · exact .tail _ (List.mem_append_left _ hp)
  · rcases List.mem_cons.mp hp with rfl | hp
    · exact .head _
    · exact .tail _ (List.mem_append_right _ hp))
end
/-- the order in which the bank's objects were made -/
structure BA.Ord (c : BA) : Prop where
  o : c.bd < c.bk ∧ c.bk < c.sn ∧ c.sn < c.sw ∧ c.sw < c.to ∧ c.to < c.ta ∧ c.ta < c.ts ∧ c.ts < c.td ∧ c.td < c.nu ∧ c.nu < c.bv
  lo : (c.nu == sysModules) = false ∧ (c.bv == sysModules) = false
/-- nothing of Z is one of the bank's objects -/
structure BA.Off (c : BA) (Z : List (Addr × Obj)) : Prop where
  bk : ∀ p ∈ Z, p.1 ≠ c.bk
  bd : ∀ p ∈ Z, p.1 ≠ c.bd
  sn : ∀ p ∈ Z, p.1 ≠ c.sn
  sw : ∀ p ∈ Z, p.1 ≠ c.sw
  to : ∀ p ∈ Z, p.1 ≠ c.to
  ta : ∀ p ∈ Z, p.1 ≠ c.ta
  ts : ∀ p ∈ Z, p.1 ≠ c.ts
  td : ∀ p ∈ Z, p.1 ≠ c.td
  nu : ∀ p ∈ Z, p.1 ≠ c.nu
  bv : ∀ p ∈ Z, p.1 ≠ c.bv
theorem BA.Off.cons {c : BA} {Z : List (Addr × Obj)} {a : Nat} {o : Obj} (x : c.Off Z) (h : c.bk < a ∧ c.bd < a ∧ c.sn < a ∧ c.sw < a ∧ c.to < a ∧ c.ta < a ∧ c.ts < a ∧ c.td < a ∧ c.nu < a ∧ c.bv < a) : c.Off ((a, o) :: Z) := by
  obtain ⟨h1, h2, h3, h4, h5, h6, h7, h8, h9, h10⟩ := h
  exact ⟨all_cons (Nat.ne_of_gt h1) x.bk, all_cons (Nat.ne_of_gt h2) x.bd, all_cons (Nat.ne_of_gt h3) x.sn, all_cons (Nat.ne_of_gt h4) x.sw, all_cons (Nat.ne_of_gt h5) x.to,
    (all_cons (Nat.ne_of_gt h6) x.ta), all_cons (Nat.ne_of_gt h7) x.ts, all_cons (Nat.ne_of_gt h8) x.td, all_cons (Nat.ne_of_gt h9) x.nu, all_cons (Nat.ne_of_gt h10) x.bv⟩
section
variable {c : BA} {Z : List (Addr × Obj)}
theorem l01 (O : c.Ord) : c.bd < c.bk := O.o.1
theorem l02 (O : c.Ord) : c.bd < c.sn := Nat.lt_trans (l01 O) O.o.2.1
theorem l03 (O : c.Ord) : c.bd < c.sw := Nat.lt_trans (l02 O) O.o.2.2.1
theorem l04 (O : c.Ord) : c.bd < c.to := Nat.lt_trans (l03 O) O.o.2.2.2.1
theorem l05 (O : c.Ord) : c.bd < c.ta := Nat.lt_trans (l04 O) O.o.2.2.2.2.1
theorem l06 (O : c.Ord) : c.bd < c.ts := Nat.lt_trans (l05 O) O.o.2.2.2.2.2.1
theorem l07 (O : c.Ord) : c.bd < c.td := Nat.lt_trans (l06 O) O.o.2.2.2.2.2.2.1
theorem l08 (O : c.Ord) : c.bd < c.nu := Nat.lt_trans (l07 O) O.o.2.2.2.2.2.2.2.1
theorem l09 (O : c.Ord) : c.bd < c.bv := Nat.lt_trans (l08 O) O.o.2.2.2.2.2.2.2.2
theorem l12 (O : c.Ord) : c.bk < c.sn := O.o.2.1
theorem l13 (O : c.Ord) : c.bk < c.sw := Nat.lt_trans (l12 O) O.o.2.2.1
theorem l14 (O : c.Ord) : c.bk < c.to := Nat.lt_trans (l13 O) O.o.2.2.2.1
theorem l15 (O : c.Ord) : c.bk < c.ta := Nat.lt_trans (l14 O) O.o.2.2.2.2.1
theorem l16 (O : c.Ord) : c.bk < c.ts := Nat.lt_trans (l15 O) O.o.2.2.2.2.2.1
theorem l17 (O : c.Ord) : c.bk < c.td := Nat.lt_trans (l16 O) O.o.2.2.2.2.2.2.1
theorem l18 (O : c.Ord) : c.bk < c.nu := Nat.lt_trans (l17 O) O.o.2.2.2.2.2.2.2.1
theorem l19 (O : c.Ord) : c.bk < c.bv := Nat.lt_trans (l18 O) O.o.2.2.2.2.2.2.2.2
theorem l23 (O : c.Ord) : c.sn < c.sw := O.o.2.2.1
theorem l24 (O : c.Ord) : c.sn < c.to := Nat.lt_trans (l23 O) O.o.2.2.2.1
theorem l25 (O : c.Ord) : c.sn < c.ta := Nat.lt_trans (l24 O) O.o.2.2.2.2.1
theorem l26 (O : c.Ord) : c.sn < c.ts := Nat.lt_trans (l25 O) O.o.2.2.2.2.2.1
theorem l27 (O : c.Ord) : c.sn < c.td := Nat.lt_trans (l26 O) O.o.2.2.2.2.2.2.1
theorem l28 (O : c.Ord) : c.sn < c.nu := Nat.lt_trans (l27 O) O.o.2.2.2.2.2.2.2.1
theorem l29 (O : c.Ord) : c.sn < c.bv := Nat.lt_trans (l28 O) O.o.2.2.2.2.2.2.2.2
theorem l34 (O : c.Ord) : c.sw < c.to := O.o.2.2.2.1
theorem l35 (O : c.Ord) : c.sw < c.ta := Nat.lt_trans (l34 O) O.o.2.2.2.2.1
theorem l36 (O : c.Ord) : c.sw < c.ts := Nat.lt_trans (l35 O) O.o.2.2.2.2.2.1
theorem l37 (O : c.Ord) : c.sw < c.td := Nat.lt_trans (l36 O) O.o.2.2.2.2.2.2.1
theorem l38 (O : c.Ord) : c.sw < c.nu := Nat.lt_trans (l37 O) O.o.2.2.2.2.2.2.2.1
theorem l39 (O : c.Ord) : c.sw < c.bv := Nat.lt_trans (l38 O) O.o.2.2.2.2.2.2.2.2
theorem l45 (O : c.Ord) : c.to < c.ta := O.o.2.2.2.2.1
theorem l46 (O : c.Ord) : c.to < c.ts := Nat.lt_trans (l45 O) O.o.2.2.2.2.2.1
theorem l47 (O : c.Ord) : c.to < c.td := Nat.lt_trans (l46 O) O.o.2.2.2.2.2.2.1
theorem l48 (O : c.Ord) : c.to < c.nu := Nat.lt_trans (l47 O) O.o.2.2.2.2.2.2.2.1
theorem l49 (O : c.Ord) : c.to < c.bv := Nat.lt_trans (l48 O) O.o.2.2.2.2.2.2.2.2
theorem l56 (O : c.Ord) : c.ta < c.ts := O.o.2.2.2.2.2.1
theorem l57 (O : c.Ord) : c.ta < c.td := Nat.lt_trans (l56 O) O.o.2.2.2.2.2.2.1
theorem l58 (O : c.Ord) : c.ta < c.nu := Nat.lt_trans (l57 O) O.o.2.2.2.2.2.2.2.1
theorem l59 (O : c.Ord) : c.ta < c.bv := Nat.lt_trans (l58 O) O.o.2.2.2.2.2.2.2.2
theorem l67 (O : c.Ord) : c.ts < c.td := O.o.2.2.2.2.2.2.1
theorem l68 (O : c.Ord) : c.ts < c.nu := Nat.lt_trans (l67 O) O.o.2.2.2.2.2.2.2.1
theorem l69 (O : c.Ord) : c.ts < c.bv := Nat.lt_trans (l68 O) O.o.2.2.2.2.2.2.2.2
theorem l78 (O : c.Ord) : c.td < c.nu := O.o.2.2.2.2.2.2.2.1
theorem l79 (O : c.Ord) : c.td < c.bv := Nat.lt_trans (l78 O) O.o.2.2.2.2.2.2.2.2
theorem l89 (O : c.Ord) : c.nu < c.bv := O.o.2.2.2.2.2.2.2.2
theorem BA.Ord.up {a : Nat} (O : c.Ord) (h : c.bv < a) : c.bk < a ∧ c.bd < a ∧ c.sn < a ∧ c.sw < a ∧ c.to < a ∧ c.ta < a ∧ c.ts < a ∧ c.td < a ∧ c.nu < a ∧ c.bv < a :=
  ⟨Nat.lt_trans (l19 O) h, Nat.lt_trans (l09 O) h, Nat.lt_trans (l29 O) h, Nat.lt_trans (l39 O) h, Nat.lt_trans (l49 O) h, Nat.lt_trans (l59 O) h, Nat.lt_trans (l69 O) h, Nat.lt_trans (l79 O) h, Nat.lt_trans (l89 O) h, h⟩
theorem BA.Ord.dn {a : Nat} (O : c.Ord) (h : a < c.bd) : a < c.bk ∧ a < c.bd ∧ a < c.sn ∧ a < c.sw ∧ a < c.to ∧ a < c.ta ∧ a < c.ts ∧ a < c.td ∧ a < c.nu ∧ a < c.bv :=
  ⟨Nat.lt_trans h (l01 O), h, Nat.lt_trans h (l02 O), Nat.lt_trans h (l03 O), Nat.lt_trans h (l04 O), Nat.lt_trans h (l05 O), Nat.lt_trans h (l06 O), Nat.lt_trans h (l07 O), Nat.lt_trans h (l08 O), Nat.lt_trans h (l09 O)⟩
theorem BA.Ord.bdbv (O : c.Ord) : c.bd < c.bv := l09 O
theorem BA.Off.above {a : Nat} {o : Obj} (x : c.Off Z) (O : c.Ord) (h : c.bv < a) : c.Off ((a, o) :: Z) := x.cons (O.up h)
theorem BA.Off.below {a : Nat} {o : Obj} (x : c.Off Z) (O : c.Ord) (h : a < c.bd) : c.Off ((a, o) :: Z) := by
  obtain ⟨h1, h2, h3, h4, h5, h6, h7, h8, h9, h10⟩ := O.dn h
  exact ⟨all_cons (Nat.ne_of_lt h1) x.bk, all_cons (Nat.ne_of_lt h2) x.bd, all_cons (Nat.ne_of_lt h3) x.sn, all_cons (Nat.ne_of_lt h4) x.sw, all_cons (Nat.ne_of_lt h5) x.to, all_cons (Nat.ne_of_lt h6) x.ta, all_cons (Nat.ne_of_lt h7) x.ts, all_cons (Nat.ne_of_lt h8) x.td, all_cons (Nat.ne_of_lt h9) x.nu, all_cons (Nat.ne_of_lt h10) x.bv⟩
end
section
variable {c : BA} {Z : List (Addr × Obj)} {a : Nat}
theorem v0 (O : c.Ord) (h : c.bv < a) : c.bd < a := Nat.lt_trans (l09 O) h
theorem v1 (O : c.Ord) (h : c.bv < a) : c.bk < a := Nat.lt_trans (l19 O) h
theorem v2 (O : c.Ord) (h : c.bv < a) : c.sn < a := Nat.lt_trans (l29 O) h
theorem v3 (O : c.Ord) (h : c.bv < a) : c.sw < a := Nat.lt_trans (l39 O) h
theorem v4 (O : c.Ord) (h : c.bv < a) : c.to < a := Nat.lt_trans (l49 O) h
theorem v5 (O : c.Ord) (h : c.bv < a) : c.ta < a := Nat.lt_trans (l59 O) h
theorem v6 (O : c.Ord) (h : c.bv < a) : c.ts < a := Nat.lt_trans (l69 O) h
theorem v7 (O : c.Ord) (h : c.bv < a) : c.td < a := Nat.lt_trans (l79 O) h
theorem v8 (O : c.Ord) (h : c.bv < a) : c.nu < a := Nat.lt_trans (l89 O) h
theorem v9 (O : c.Ord) (h : c.bv < a) : c.bv < a := h
theorem lele {n a b : Nat} (h : n ≤ a) (k : Nat.ble a b = true) : n ≤ b := Nat.le_trans h (Nat.le_of_ble_eq_true k)
theorem lels {α : Type} {v : List α} {x : α} {a b : Nat} (h : v.length ≤ a) (k : Nat.ble (a + 1) b = true) : (v ++ [x]).length ≤ b := by rw [List.length_append]; exact Nat.le_trans (Nat.succ_le_succ h) (Nat.le_of_ble_eq_true k)
theorem nul (O : c.Ord) : (c.nu == sysModules) = false := O.lo.1
theorem bvl (O : c.Ord) : (c.bv == sysModules) = false := O.lo.2
end
set_option genInjectivity false in
set_option genSizeOfSpec false in
/-- the bank's turned parts -/
structure BSt where
  vn : List Value
  vw : List Value
  vo : List Value
  va : List Value
  vs : List Value
  vd : List Value
  cn : Nat
  cw : Nat
  co : Nat
  ca : Nat
  cs : Nat
  cd : Nat
  onu : Obj
  obv : Obj
noncomputable abbrev bankLed (P : Params) (c : BA) (b : BSt) (Z : List (Addr × Obj)) : List (Addr × Obj) :=
  (c.bk, instObj 677 c.bd) :: (c.bd, bankDict P c) :: (c.sn, LO b.vn b.cn) :: (c.sw, LO b.vw b.cw) :: (c.to, LO b.vo b.co) :: (c.ta, LO b.va b.ca) :: (c.ts, LO b.vs b.cs) :: (c.td, LO b.vd b.cd) :: (c.nu, b.onu) :: (c.bv, b.obv) :: Z
end
section
open PySem PySem.W PySem.Calls PyProof.Rows
theorem tk_cons {prog : Program} {w : World} {A : Around} {st : Stmt} {rest : List Stmt} {env : Env} {Q : Flow → Shared → Prop} {E : Value → Shared → Prop} {s : Shared} {h : Heap} {t : Tok}
    (H : ∀ tk, wpAny (model prog w) A (exec st env) (fun f s' => match f with | .next => wpAny (model prog w) A (execs rest env) Q E s' | f => Q f s') E { s with heap := h, toks := tk }) :
    wpAny (model prog w) A (execs (st :: rest) env) Q E { s with heap := h, toks := t } := wpAny_execs_cons (H t)
/-! a stop of the walker, and the guards of the own lines: what a line is for, as a lemma -/
noncomputable def Stop (P : Prop) : Prop := P
theorem stop_in {P : Prop} (h : Stop P) : P := h
/-- shuts a goal away from the elaborator -/
structure Shut (P : Prop) : Prop where out : P
section
variable {M : Model} {A : Around} {s : Shared} {E : Value → Shared → Prop} {Q : Value → Shared → Prop} {R : Flow → Shared → Prop} {env : Env} {l : List Stmt} {a : List Value}
theorem st_any {f : Addr} (h : Stop (wpAny M A (call (.ref f) a) Q E s)) : wpAny M A (call (.ref f) a) Q E s := h
theorem st_298 (h : Stop (wpAny M A (call (.ref 298) a) Q E s)) : wpAny M A (call (.ref 298) a) Q E s := h
theorem st_583 (h : Stop (wpAny M A (call (.ref 583) a) Q E s)) : wpAny M A (call (.ref 583) a) Q E s := h
theorem st_221 (h : Stop (wpAny M A (call (.ref 221) a) Q E s)) : wpAny M A (call (.ref 221) a) Q E s := h
theorem st_604 (h : Stop (wpAny M A (call (.ref 604) a) Q E s)) : wpAny M A (call (.ref 604) a) Q E s := h
theorem st_736 (h : Stop (wpAny M A (call (.ref 736) a) Q E s)) : wpAny M A (call (.ref 736) a) Q E s := h
theorem st_686 (h : Stop (wpAny M A (call (.ref 686) a) Q E s)) : wpAny M A (call (.ref 686) a) Q E s := h
theorem at_123 (h : wpAny M A (call (.ref 123) a) Q E s) : wpAny M A (call (.ref 123) a) Q E s := h
theorem at_130 (h : wpAny M A (call (.ref 130) a) Q E s) : wpAny M A (call (.ref 130) a) Q E s := h
theorem at_137 (h : wpAny M A (call (.ref 137) a) Q E s) : wpAny M A (call (.ref 137) a) Q E s := h
theorem at_144 (h : wpAny M A (call (.ref 144) a) Q E s) : wpAny M A (call (.ref 144) a) Q E s := h
theorem at_151 (h : wpAny M A (call (.ref 151) a) Q E s) : wpAny M A (call (.ref 151) a) Q E s := h
theorem at_207 (h : wpAny M A (call (.ref 207) a) Q E s) : wpAny M A (call (.ref 207) a) Q E s := h
theorem g_bget {f x : Addr} {i : Int} {t : Tok} (h : wpAny M A (call (.ref f) [.ref x, .int i t]) Q E s) : wpAny M A (call (.ref f) [.ref x, .int i t]) Q E s := h
theorem g_bwid {x : Addr} {i : Int} {t : Tok} (h : wpAny M A (call (.ref 284) [.ref x, .int i t]) Q E s) : wpAny M A (call (.ref 284) [.ref x, .int i t]) Q E s := h
theorem g_bsize  (h : wpAny M A (call (.ref 291) a) Q E s) : wpAny M A (call (.ref 291) a) Q E s := h
theorem g_app {f : String} {x : Addr} {v : Value} (h : wpAny M A (call (.builtin f) [.ref x, v]) Q E s) : wpAny M A (call (.builtin f) [.ref x, v]) Q E s := h
theorem g_item {x : Addr} {i : Int} {t : Tok} {v u : PySem.Expr} (h : wpAny M A (subscriptTail v u (.ref x) (.int i t)) Q E s) : wpAny M A (subscriptTail v u (.ref x) (.int i t)) Q E s := h
theorem g_appM {x : Addr} {pl : Sem Bool} {Q : Value × List Value → Shared → Prop} (h : wpAny M A (getMethod (.ref x) (Str.ofString "append") pl) Q E s) : wpAny M A (getMethod (.ref x) (Str.ofString "append") pl) Q E s := h
theorem g_get {x : Addr} {i : Int} {t : Tok} (h : wpAny M A (getItem (.ref x) (.int i t)) Q E s) : wpAny M A (getItem (.ref x) (.int i t)) Q E s := h
theorem g_name {x : Str} {p : Pos} {q : Str} {sc : Scope} {L f : Addr} {cd : Value} (h : wpAny M A (eval (.Name x p) (envOfC q sc L f cd)) Q E s) : wpAny M A (eval (.Name x p) (envOfC q sc L f cd)) Q E s := h
theorem st_asg {a b c} (h : Stop (wpAny M A (execs (.Assign a b c :: l) env) R E s)) : wpAny M A (execs (.Assign a b c :: l) env) R E s := h
theorem st_asgT {a x y z c} (h : Stop (wpAny M A (execs (.Assign a (.Tuple x y z) c :: l) env) R E s)) : wpAny M A (execs (.Assign a (.Tuple x y z) c :: l) env) R E s := h
theorem st_asgD {a x y z c} (h : Stop (wpAny M A (execs (.Assign a (.Dict x y z) c :: l) env) R E s)) : wpAny M A (execs (.Assign a (.Dict x y z) c :: l) env) R E s := h
theorem st_asgL {a x y z u c} (h : Stop (wpAny M A (execs (.Assign a (.ListComp x y z u) c :: l) env) R E s)) : wpAny M A (execs (.Assign a (.ListComp x y z u) c :: l) env) R E s := h
theorem st_expr {a b} (h : Stop (wpAny M A (execs (.Expr a b :: l) env) R E s)) : wpAny M A (execs (.Expr a b :: l) env) R E s := h
theorem st_for {a b c d e} (h : Stop (wpAny M A (execs (.For a b c d e :: l) env) R E s)) : wpAny M A (execs (.For a b c d e :: l) env) R E s := h
theorem st_ifIn {a x y b c d} (h : Stop (wpAny M A (execs (.If (.Compare a [.In] x y) b c d :: l) env) R E s)) : wpAny M A (execs (.If (.Compare a [.In] x y) b c d :: l) env) R E s := h
theorem st_ifEq {a x y b c d} (h : Stop (wpAny M A (execs (.If (.Compare a [.Eq] x y) b c d :: l) env) R E s)) : wpAny M A (execs (.If (.Compare a [.Eq] x y) b c d :: l) env) R E s := h
end
/-! lean lemmas on the bank's ledger: what omega and simp would say at length -/
section
variable {P : Params} {c : BA} {b : BSt} {Z xs : List (Addr × Obj)}
theorem bank_tl : ∀ p ∈ Z, p ∈ bankLed P c b Z := in10
theorem bank_sub {Y : List (Addr × Obj)} (h : ∀ p ∈ Z, p ∈ Y) : ∀ p ∈ bankLed P c b Z, p ∈ bankLed P c b Y :=
  sub_cons mem0 (sub_cons mem1 (sub_cons mem2 (sub_cons mem3 (sub_cons mem4 (sub_cons mem5 (sub_cons mem6 (sub_cons mem7 (sub_cons mem8 (sub_cons mem9 fun p hp => bank_tl p (h p hp))))))))))
/-- the bank's own ten objects, and the tail -/
theorem bank_in {L : List (Addr × Obj)} (h : ∀ p ∈ bankLed P c b [], p ∈ L) (hz : ∀ p ∈ Z, p ∈ L) : ∀ p ∈ bankLed P c b Z, p ∈ L :=
  sub_cons (h _ mem0) (sub_cons (h _ mem1) (sub_cons (h _ mem2) (sub_cons (h _ mem3) (sub_cons (h _ mem4) (sub_cons (h _ mem5) (sub_cons (h _ mem6) (sub_cons (h _ mem7) (sub_cons (h _ mem8) (sub_cons (h _ mem9) hz)))))))))
theorem led_perm : ∀ p ∈ bankLed P c b (xs ++ Z), p ∈ xs ++ bankLed P c b Z :=
  bank_in (fun p h => List.mem_append_right _ (bank_sub sub_nil p h)) fun p h => (List.mem_append.mp h).elim (List.mem_append_left _) fun h => List.mem_append_right _ (bank_tl p h)
theorem led_perm' : ∀ p ∈ xs ++ bankLed P c b Z, p ∈ bankLed P c b (xs ++ Z) := fun p h =>
  (List.mem_append.mp h).elim (fun h => bank_tl p (List.mem_append_left _ h)) (bank_sub (fun _ h => List.mem_append_right _ h) p)
/-- one object more in the tail -/
theorem led_more {L : List (Addr × Obj)} {x : Addr × Obj} (hx : x ∈ L) (h : ∀ p ∈ xs ++ bankLed P c b Z, p ∈ L) : ∀ p ∈ xs ++ bankLed P c b (x :: Z), p ∈ L := fun p hp =>
  (List.mem_append.mp hp).elim (fun q => h p (List.mem_append_left _ q)) (bank_in (fun p q => h p (List.mem_append_right _ (bank_sub sub_nil p q))) (sub_cons hx fun p q => h p (List.mem_append_right _ (bank_tl p q))) p)
theorem bank_more {L : List (Addr × Obj)} {x : Addr × Obj} (hx : x ∈ L) (h : ∀ p ∈ bankLed P c b Z, p ∈ L) : ∀ p ∈ bankLed P c b (x :: Z), p ∈ L :=
  bank_in (fun p q => h p (bank_sub sub_nil p q)) (sub_cons hx fun p q => h p (bank_tl p q))
/-- the order of the law's own objects beside the bank's -/
structure OXs (c : BA) (fd cl pl wd kn : Nat) : Prop where
  fc : fd < cl
  cb : cl < c.bd
  fb : fd < c.bd
  vp : c.bv < pl
  pw : pl < wd
  wk : wd < kn
  vw : c.bv < wd
  vk : c.bv < kn
  fp : fd < pl
  fw : fd < wd
  fk : fd < kn
  cp : cl < pl
  cw : cl < wd
  ck : cl < kn
  pk : pl < kn
theorem oxs {fd cl pl wd kn : Nat} (O : c.Ord) (OX : fd < cl ∧ cl < c.bd ∧ c.bv < pl ∧ pl < wd ∧ wd < kn) : OXs c fd cl pl wd kn :=
  have x1 := OX.1; have x2 := OX.2.1; have x3 := OX.2.2.1; have x4 := OX.2.2.2.1; have x5 := OX.2.2.2.2
  have b := Nat.lt_trans O.bdbv x3
  have cp := Nat.lt_trans x2 b; have cw := Nat.lt_trans cp x4; have vw := Nat.lt_trans x3 x4
  ⟨x1, x2, Nat.lt_trans x1 x2, x3, x4, x5, vw, Nat.lt_trans vw x5, Nat.lt_trans x1 cp, Nat.lt_trans x1 cw, Nat.lt_trans x1 (Nat.lt_trans cw x5), cp, cw, Nat.lt_trans cw x5, Nat.lt_trans x4 x5⟩
theorem ox5 {fd cl pl wd kn a : Nat} (S : OXs c fd cl pl wd kn) (h : kn < a) : fd < a ∧ cl < a ∧ pl < a ∧ wd < a ∧ kn < a ∧ c.bv < a := ⟨Nat.lt_trans S.fk h, Nat.lt_trans S.ck h, Nat.lt_trans S.pk h, Nat.lt_trans S.wk h, h, Nat.lt_trans S.vk h⟩
theorem za_off {fd cl pl wd kn : Nat} {l : Addr} {o1 o2 o3 o4 o5 : Obj} (O : c.Ord) (OX : fd < cl ∧ cl < c.bd ∧ c.bv < pl ∧ pl < wd ∧ wd < kn) (h : @LT.lt Nat _ kn l) (ZO : c.Off Z) : c.Off ((fd, o1) :: (cl, o2) :: (l + 1, o3) :: (pl, o4) :: (kn, o5) :: Z) :=
  have S := oxs O OX
  (((((ZO.above O S.vk).above O S.vp).above O (Nat.lt_trans S.vk (Nat.lt_succ_of_lt h))).below O S.cb).below O S.fb)
theorem led_off {a : Nat} (O : c.Ord) (ha : a < c.bd ∨ c.bv < a) (hZ : ∀ p ∈ Z, p.1 ≠ a) : ∀ p ∈ bankLed P c b Z, p.1 ≠ a := by
  rcases ha with h | h
  · obtain ⟨h1, h2, h3, h4, h5, h6, h7, h8, h9, h10⟩ := O.dn h
    exact ne_cons (Nat.ne_of_gt h1) (ne_cons (Nat.ne_of_gt h2) (ne_cons (Nat.ne_of_gt h3) (ne_cons (Nat.ne_of_gt h4) (ne_cons (Nat.ne_of_gt h5) (ne_cons (Nat.ne_of_gt h6) (ne_cons (Nat.ne_of_gt h7) (ne_cons (Nat.ne_of_gt h8) (ne_cons (Nat.ne_of_gt h9) (ne_cons (Nat.ne_of_gt h10) hZ)))))))))
  · obtain ⟨h1, h2, h3, h4, h5, h6, h7, h8, h9, h10⟩ := O.up h
    exact ne_cons (Nat.ne_of_lt h1) (ne_cons (Nat.ne_of_lt h2) (ne_cons (Nat.ne_of_lt h3) (ne_cons (Nat.ne_of_lt h4) (ne_cons (Nat.ne_of_lt h5) (ne_cons (Nat.ne_of_lt h6) (ne_cons (Nat.ne_of_lt h7) (ne_cons (Nat.ne_of_lt h8) (ne_cons (Nat.ne_of_lt h9) (ne_cons (Nat.ne_of_lt h10) hZ)))))))))
end
end
section
open PySem PySem.W PySem.Calls PyProof.Rows
set_option hygiene false in
local macro_rules | `(tactic| walk_at "call ref") => `(tactic| with_reducible refine st_any ?_)
set_option hygiene false in
local macro_rules | `(tactic| walk_at "items") => `(tactic| (k_here; (with_reducible refine g_item ?_); k_dflt (refine' item_tupleT (by exact News.isTup (by k_asm) (by k_mem)) (by decide) (by decide) (by rfl) (by rfl) ?_; k_whole)))
set_option hygiene false in
local macro_rules | `(tactic| walk_at "items") => `(tactic| (k_here; (with_reducible refine g_item ?_); (with_unfolding_all refine' item_LO (by k_asm) (by k_mem) (by with_reducible assumption) (by omega) (by omega) ?_ (by with_unfolding_all rfl); k_whole)))
set_option hygiene false in
local macro_rules | `(tactic| walk_at "items") => `(tactic| (k_here; (with_reducible refine g_item ?_); (with_unfolding_all refine' item_litK (by is_list) (by decide) (by decide) (by rfl) ?_ (by with_unfolding_all rfl); k_whole)))
set_option hygiene false in
local macro_rules | `(tactic| walk_at "subscriptTail") => `(tactic| walk_at "items")
set_option hygiene false in
local macro_rules | `(tactic| walk_at "subscriptTail Name") => `(tactic| walk_at "items")
set_option hygiene false in
local macro_rules | `(tactic| walk_at "subscriptTail Name Constant ref int") => `(tactic| walk_at "items")
set_option hygiene false in
local macro_rules | `(tactic| walk_at "subscriptTail Attribute") => `(tactic| walk_at "items")
set_option hygiene false in
local macro_rules | `(tactic| walk_at "subscriptTail Call") => `(tactic| walk_at "items")
set_option hygiene false in
local macro_rules | `(tactic| walk_at "subscriptTail Name Constant ref str") => `(tactic| (k_here; k_dflt (refine kda_item (knd := PySem.strKind _ _) (by k_asm) (by k_mem) (by k_asm) (PySem.strKind_is _ _ _ _) (by rfl) ?_)))
set_option hygiene false in
local macro_rules | `(tactic| walk_at "getMethod ref") => `(tactic| (k_here; k_dflt (first | ((with_reducible refine g_appM ?_); refine listMethod_K (by k_asm) (by k_mem) PySem.F.slot_list_append PySem.F.type_list_append ?_) | (refine' method_inst (by k_asm) (by k_asm) (by k_inst) (by k_is) (by k_is) (by k_is) (by k_get) ?_; k_whole))))
set_option hygiene false in
local macro_rules | `(tactic| omega) => `(tactic| first | with_reducible assumption | decide | ((with_reducible refine q_nle ?_); first | exact nle (by with_reducible assumption) (by decide +kernel) | exact nla (by with_reducible assumption) (by with_reducible assumption) (by decide +kernel) | exact nleq (by with_reducible assumption) (by first | with_reducible assumption | exact nle (by with_reducible assumption) (by decide +kernel) | exact nla (by with_reducible assumption) (by with_reducible assumption) (by decide +kernel)) | exact nls (by with_reducible assumption) (by omega) | ((with_reducible apply nle1); with_reducible assumption; decide +kernel) | ((with_reducible apply nlk); with_reducible assumption; omega) | fail) | ((with_reducible refine q_nlt ?_); first | exact ngt (by with_reducible assumption) (by decide +kernel) | fail) | ((with_reducible refine q_ile ?_); first | with_reducible exact inn | exact ile (by with_reducible assumption) (by decide +kernel) | exact ige (by with_reducible assumption) (by decide +kernel) | exact ille (by with_reducible assumption) (by decide +kernel) | exact ile (by exact And.right (by with_reducible assumption)) (by decide +kernel) | exact ige (by exact And.left (by with_reducible assumption)) (by decide +kernel) | exact Int.not_lt.mp (by with_reducible assumption) | exact Int.le_of_lt (by with_reducible assumption) | exact icl (by with_reducible assumption) (by with_reducible assumption) (by decide +kernel) | ((with_reducible apply iad); with_reducible assumption; decide +kernel) | ((with_reducible apply iad2); with_reducible assumption; decide +kernel) | ((with_reducible apply ila); with_reducible assumption; decide +kernel) | fail) | ((with_reducible refine q_ilt ?_); first | exact ilt (by with_reducible assumption) (by decide +kernel) | exact illt (by with_reducible assumption) (by decide +kernel) | exact igt (by with_reducible assumption) (by decide +kernel) | exact ilt2 (by with_reducible assumption) (by with_reducible assumption) (by decide +kernel) | fail))
set_option hygiene false in
local macro_rules | `(tactic| walk_at "in place") => `(tactic| (k_here; refine wpAny_call ?_; k_dflt (refine' code_def (by k_asm) (by k_asm) (by k_asm) (by k_asm) (by k_asm) rfl (by first | exact rfl | assumption) (by first | exact rfl | assumption) (by k_is) (by k_is) (by ktr_room) (by exact BindsTo.of_eq rfl) (by exact locs rfl) ?_ (by exact rfl) (by exact rfl) (by exact rfl) (by decide); k_whole; intro gq Lq hq FGq Fq Nq Bq Xq Tq; (try dsimp only); (try k_fold))))
set_option hygiene false in
local macro_rules | `(tactic| walk_at "execs cons") => `(tactic| (k_here; refine tk_cons (s := s) ?_; intro tkv))
local macro_rules | `(tactic| walk_at "le") => `(tactic| first | exact lele (by with_reducible assumption) rfl | exact lels (by with_reducible assumption) rfl | omega | (simp only [List.length_append, List.length_cons, List.length_nil]; omega))
set_option hygiene false in
local macro_rules | `(tactic| k_all) => `(tactic| with_reducible assumption)
set_option hygiene false in
local macro_rules | `(tactic| k_mem) => `(tactic| first | (with_reducible first | exact mem0 | exact mem1 | exact mem2 | exact mem3 | exact mem4 | exact mem5 | exact mem6 | exact mem7 | exact mem8 | exact mem9 | exact mem10 | exact mem11 | exact mem12 | exact mem13 | exact mem14) | assumption | ((repeat (first | exact List.Mem.head _ | refine' List.Mem.tail _ ?_ | assumption)); done))
set_option hygiene false in
local macro_rules | `(tactic| k_ne) => `(tactic| first | with_reducible assumption | exact Ne.symm (by with_reducible assumption) | exact Nat.ne_of_lt (by with_reducible assumption) | exact Nat.ne_of_gt (by with_reducible assumption) | exact Nat.ne_of_gt (And.left (by with_reducible assumption)) | exact Nat.ne_of_gt (And.left (And.right (by with_reducible assumption))) | exact Nat.ne_of_gt (And.left (And.right (And.right (by with_reducible assumption)))) | exact Nat.ne_of_gt (And.left (And.right (And.right (And.right (by with_reducible assumption))))) | exact Nat.ne_of_gt (And.left (And.right (And.right (And.right (And.right (by with_reducible assumption)))))) | exact Nat.ne_of_gt (And.left (And.right (And.right (And.right (And.right (And.right (by with_reducible assumption))))))) | exact Nat.ne_of_gt (And.left (And.right (And.right (And.right (And.right (And.right (And.right (by with_reducible assumption)))))))) | exact Nat.ne_of_gt (And.left (And.right (And.right (And.right (And.right (And.right (And.right (And.right (by with_reducible assumption))))))))) | exact Nat.ne_of_gt (And.left (And.right (And.right (And.right (And.right (And.right (And.right (And.right (And.right (by with_reducible assumption)))))))))) | exact Nat.ne_of_gt (And.left (And.right (And.right (And.right (And.right (And.right (And.right (And.right (And.right (And.right (by with_reducible assumption))))))))))) | exact Nat.ne_of_gt (And.left (And.right (And.right (And.right (And.right (And.right (And.right (And.right (And.right (And.right (And.right (by with_reducible assumption)))))))))))) | (refine neN ?_; (try dsimp only); omega))
set_option hygiene false in
local macro_rules | `(tactic| k_all) => `(tactic| first | with_reducible assumption | (refine ne_cons ?_ ?_; k_ne; k_all))
set_option hygiene false in
local macro_rules | `(tactic| ktr_room) => `(tactic| first | exact rr0 (by with_reducible assumption) rfl | exact rr1 (by with_reducible assumption) rfl | exact rr2 (by with_reducible assumption) rfl | exact rr3 (by with_reducible assumption) rfl)
set_option hygiene false in
local macro_rules | `(tactic| ktr_units) => `(tactic| first | exact uu3 (by with_reducible assumption) rfl | exact uu5 (by with_reducible assumption) rfl)
local macro_rules | `(tactic| k_lt $h) => `(tactic| (replace $h := allLt_of $h; dsimp only [AllLt] at $h:ident))
set_option hygiene false in
local macro_rules | `(tactic| walk_at "call builtin:len") => `(tactic| (k_here; k_dflt (refine' len_LO (by k_asm) (by k_mem) (by walk_at "le") ?_; k_whole; intro _ _)))
set_option hygiene false in
local macro_rules | `(tactic| walk_at "call builtin:list.append") => `(tactic| (k_here; (with_reducible refine g_app ?_); k_dflt (refine' append_LO (by k_asm) (by k_asm) (by k_upd) (by walk_at "le") ?_; k_whole); intro _ _ _; (try k_sweep)))
local macro_rules | `(tactic| walk_at "testChain") => `(tactic| (k_here; first | refine test_link ?_ | refine test_last ?_))
local macro_rules | `(tactic| walk_at "exec Raise some none") => `(tactic| (k_here; k_dflt (refine' x_raise rfl ?_)))
set_option hygiene false in
local macro_rules | `(tactic| walk_at "newTuple") => `(tactic| (k_here; k_dflt (refine' newTup_L (by k_asm) (by k_asm) (by simp) ?_; k_whole); (first | ((fail_if_success have q9 := Dk); intro Dk _ _ _ lDk; k_lt lDk) | ((fail_if_success have q9 := Dk2); intro Dk2 _ _ _ lDk2; k_lt lDk2) | ((fail_if_success have q9 := Dk3); intro Dk3 _ _ _ lDk3; k_lt lDk3) | ((fail_if_success have q9 := Dk4); intro Dk4 _ _ _ lDk4; k_lt lDk4)); (try k_sweep)))
set_option hygiene false in
local macro_rules | `(tactic| k_all) => `(tactic| first | (with_reducible first | exact in1 | exact in2 | exact in3 | exact in4 | exact in5 | exact in6 | exact in7 | exact in8 | exact in9 | exact in10 | exact in11 | exact in12 | exact in13 | exact in14) | (refine sub_cons ?_ ?_; k_mem; k_all) | exact sub_nil | with_reducible assumption | (refine ne_cons ?_ ?_; k_ne; k_all) | (intro p hp; (repeat (first | exact hp | refine' List.Mem.tail _ ?_)); done))
set_option hygiene false in
local macro_rules | `(tactic| walk_at "eval Name") => `(tactic| (k_here; (fail_if_success (fail_if_success (with_reducible refine g_name ?_))); k_dflt (refine' nameX_L (by k_asm) ?zzv ?_ (by rfl) (by rfl); (case zzv => first | assumption | (show m _ = some _; assumption)); k_whole)))
section
open PySem PySem.W PySem.Calls PyProof.Rows
set_option hygiene false in
local macro_rules | `(tactic| k_ne) => `(tactic| first | with_reducible assumption | exact Ne.symm (by with_reducible assumption) | exact Nat.ne_of_lt (by with_reducible assumption) | exact Nat.ne_of_gt (by with_reducible assumption) | exact Nat.ne_of_lt (Nat.lt_trans (m := c.bv) (by with_reducible assumption) (by with_reducible assumption)) | exact Nat.ne_of_gt (Nat.lt_trans (m := c.bv) (by with_reducible assumption) (by with_reducible assumption)) | exact Nat.ne_of_lt (Nat.lt_trans (m := nu) (by with_reducible assumption) (by with_reducible assumption)) | exact Nat.ne_of_gt (Nat.lt_trans (m := nu) (by with_reducible assumption) (by with_reducible assumption)) | (refine neN ?_; (try dsimp only); omega))
local macro_rules | `(tactic| k_all) => `(tactic| first | with_reducible assumption | (refine ne_cons ?_ ?_; k_ne; k_all))
set_option hygiene false in
local macro_rules | `(tactic| k_lt $h) => `(tactic| first | (have hb : @LT.lt Nat _ nu _ := $h _ mem6) | (have hb : @LT.lt Nat _ c.bv _ := $h _ mem9) | (have hb : @LT.lt Nat _ c.bv _ := $h _ mem10) | (have hb : @LT.lt Nat _ c.bv _ := $h _ mem11) | (replace $h := allLt_of $h; dsimp only [AllLt] at $h:ident))
section
open PySem PySem.W PySem.Calls PyProof.Rows
set_option hygiene false in
local macro_rules | `(tactic| walk_at "getMethod ref") => `(tactic| (k_here; k_dflt (refine' nu_method PySem.F.slot_dict_get PySem.F.type_dict_get (by k_asm) (by k_mem) (by assumption) ?_; k_whole)))
set_option hygiene false in
local macro_rules | `(tactic| walk_at "getAttr ref") => `(tactic| (k_here; k_dflt (refine' get_own ?F ?X ?I ?hg ?hh ?ha ?hn ?hl ?hv ?_; (case hl => with_reducible assumption); (case I => k_inst); (case F => k_asm); (case X => k_asm); (case hg => k_is); (case hh => k_is); (case ha => k_is); (case hn => k_is); (case hv => exact rfl); k_whole)))
section
variable {w : World} {mean : ExcName → Option Value} {mg mb : Str → Option Value} {dp un : Nat} {gd : Option (List Code)} {env : Env} {outer : List Env} {A₀ : Around} {base h₀ : Heap} {L : Addr} {m : Str → Option Value} {s : Shared} {Q E : Value → Shared → Prop}
    {c : BA} {b : BSt} {xs : List (List EK × Addr × Value)} {Z : List (Addr × Obj)} {op : Str} {to' ts' : Tok} {at' : Addr} {so : Int} {dv : Value} {al : List Int} {dk : EK}
set_option maxHeartbeats 20000000 in
/-- make, a new term; the bank's dict by what it answers -/
theorem make_G {es : List DictEntry} {qn bk bd to ta ts td nu co ca cs cd : Nat} {vo va vs vd : List Value} {onu : Obj} {W : List (Addr × Obj)} (B : Below A₀ base outer h₀) (F : Fr h₀ L s.heap m) (X : (heap w.params).In h₀) (T : Top view (looseW view []) mean mg mb h₀)
    (hf : env.frame = some L) (hk : env.scope.kind = .function) (hdp : dp ≤ 450) (hun : un ≤ 500)
    (N : News h₀ L s.heap ((bk, instObj 677 bd) :: (bd, dictOf es qn) :: (to, LO vo co) :: (ta, LO va ca) :: (ts, LO vs cs) :: (td, LO vd cd) :: (nu, onu) :: Z))
    (g1 : getL (Str.ofString "numbers") es = some (some (.ref nu))) (g2 : getL (Str.ofString "term_ops") es = some (some (.ref to))) (g3 : getL (Str.ofString "term_args") es = some (some (.ref ta))) (g4 : getL (Str.ofString "term_sorts") es = some (some (.ref ts))) (g5 : getL (Str.ofString "term_datas") es = some (some (.ref td)))
    (NU : NuIs PySem.Challenge.rw_nz0152_01.row.prog w W onu xs) (hW : ∀ p ∈ W, p ∈ Z) (O : bd < bk ∧ bk < to ∧ to < ta ∧ ta < ts ∧ ts < td ∧ td < nu) (lo1 : (nu == sysModules) = false) (z5 : ∀ p ∈ Z, p.1 ≠ to) (z6 : ∀ p ∈ Z, p.1 ≠ ta) (z7 : ∀ p ∈ Z, p.1 ≠ ts) (z8 : ∀ p ∈ Z, p.1 ≠ td) (z9 : ∀ p ∈ Z, p.1 ≠ nu)
    (hop : PyData.strOk op = true) (hal : EKin W (.t al) (.ref at')) (hdk : EKin W dk dv) (hnone : atKey xs [.s op, .t al, .i so, dk] = none)
    (hlen : vo.length ≤ 900) (hlen2 : va.length ≤ 900) (hlen3 : vs.length ≤ 900) (hlen4 : vd.length ≤ 900) (hlen5 : xs.length ≤ 900)
    (ret : ∀ h' tk' t q onu' us, Fr h₀ L h' m → News h₀ L h' ((q, tupO us) :: (bk, instObj 677 bd) :: (bd, dictOf es qn) :: (to, LO (vo ++ [.str op to']) (co + 1)) :: (ta, LO (va ++ [.ref at']) (ca + 1)) :: (ts, LO (vs ++ [.int so ts']) (cs + 1)) :: (td, LO (vd ++ [dv]) (cd + 1)) :: (nu, onu') :: Z) →
      NuIs PySem.Challenge.rw_nz0152_01.row.prog w ((q, tupO us) :: W) onu' (xs ++ [([.s op, .t al, .i so, dk], q, .int vo.length t)]) → nu < q → (∀ p ∈ Z, @LT.lt Nat _ p.1 q) → Q (.int vo.length t) { s with heap := h', toks := tk' }) :
    wpAny (model PySem.Challenge.rw_nz0152_01.row.prog w) { handled := none, depth := dp, frames := some (env :: outer), guards := gd, units := un } (call (.ref 298) [.ref bk, .str op to', .ref at', .int so ts', dv]) Q E s := by
  have o1 := O.1; have o2 := O.2.1; have o3 := O.2.2.1; have o4 := O.2.2.2.1; have o5 := O.2.2.2.2.1; have o6 := O.2.2.2.2.2
  have y1 := Nat.lt_trans o5 o6; have y2 := Nat.lt_trans o4 y1; have y3 := Nat.lt_trans o3 y2; have y4 := Nat.lt_trans o2 y3; have y5 := Nat.lt_trans o1 y4
  have x1 := Nat.lt_trans o4 o5; have x2 := Nat.lt_trans o3 x1; have x3 := Nat.lt_trans o2 x2; have x4 := Nat.lt_trans o1 x3
  have w1 := Nat.lt_trans o3 o4; have w2 := Nat.lt_trans o2 w1; have w3 := Nat.lt_trans o1 w2
  have u1 := Nat.lt_trans o2 o3; have u2 := Nat.lt_trans o1 u1; have u3 := Nat.lt_trans o1 o2
  refine wpAny_call ?_
  k_dflt (refine' code_def ?k1 ?k2 ?k3 ?k4 ?k5 ?kA ?kF ?kK ?k6 ?k7 ?k8 ?k9 ?kB ?_ ?c2 ?c3 ?c4 ?c5)
  case kA => exact rfl
  case kF => exact hf
  case kK => exact hk
  case k1 => exact B
  case k2 => exact F
  case k3 => exact X
  case k4 => exact N
  case k5 => exact T
  case k6 => k_is
  case k7 => k_is
  case k8 => ktr_room
  case k9 => exact BindsTo.of_eq rfl
  case c5 => decide
  case kB => exact locs rfl
  case c2 => exact rfl
  case c3 => exact rfl
  case c4 => exact rfl
  intro g' L' h' FG' F' N' B' X' T'
  dsimp only
  try k_fold
  k_steps
  all_goals (try delta Stop)
  rename News _ _ _ _ => N9
  refine nu_get (ks := [.s op, .t al, .i so, dk]) ?hu N9 (by k_mem) NU ?hs ?key lo1 fun tk9 => ?_
  case hu => ktr_units
  case hs => exact fun p hp => in8 p (hW p hp)
  case key => exact ⟨_, mem0, .cons ⟨_, rfl, hop⟩ (.cons (hal.mono fun p hp => in8 p (hW p hp)) (.cons ⟨_, rfl⟩ (.cons (hdk.mono fun p hp => in8 p (hW p hp)) .nil)))⟩
  rw [hnone]
  dsimp only [Option.map_none, Option.getD_none]
  k_steps
  all_goals (try delta Stop)
  rename News _ _ _ _ => N9
  rename Fr _ _ _ _ => F9
  refine nu_set (pre := [_, _, _, _, _, _, _]) (post := Z) (Y := (Dk, tupO [.str op to', .ref at', .int so ts', dv]) :: W) (ks := [.s op, .t al, .i so, dk]) ?hu F9 N9 ?h1 ?h2 NU (fun p hp => .tail _ hp) ?hY ?key (lele hlen5 rfl) fun h5 o5' tk5 F5 N5 NU5 => ?_
  case key => exact ⟨_, .head _, .cons ⟨_, rfl, hop⟩ (.cons (hal.mono fun p hp => .tail _ hp) (.cons ⟨_, rfl⟩ (.cons (hdk.mono fun p hp => .tail _ hp) .nil)))⟩
  case hu => ktr_units
  case h1 => k_all
  case h2 => k_all
  case hY => exact sub_cons mem0 fun p hp => in7 p (hW p hp)
  rw [storedH_new hnone] at NU5
  simp only [List.cons_append, List.nil_append] at N5
  dsimp only
  k_steps
  all_goals (try delta Stop)
  exact ret _ _ _ _ _ _ (by assumption) (by assumption) NU5 hb fun p hp => lDk p (in7 p hp)
set_option maxHeartbeats 20000000 in
theorem make_new (B : Below A₀ base outer h₀) (F : Fr h₀ L s.heap m) (X : (heap w.params).In h₀) (T : Top view (looseW view []) mean mg mb h₀)
    (N : News h₀ L s.heap (bankLed w.params c b Z))
    (hf : env.frame = some L) (hk : env.scope.kind = .function) (hdp : dp ≤ 450) (hun : un ≤ 500)
    (NU : NuIs PySem.Challenge.rw_nz0152_01.row.prog w Z b.onu xs) (O : c.Ord) (ZO : c.Off Z)
    (hop : PyData.strOk op = true) (hal : EKin Z (.t al) (.ref at')) (hdk : EKin Z dk dv) (hnone : atKey xs [.s op, .t al, .i so, dk] = none)
    (hlen : b.vo.length ≤ 900) (hlen2 : b.va.length ≤ 900) (hlen3 : b.vs.length ≤ 900) (hlen4 : b.vd.length ≤ 900) (hlen5 : xs.length ≤ 900)
    (ret : ∀ h' tk' t q onu' Z', Fr h₀ L h' m → News h₀ L h' (bankLed w.params c { b with vo := b.vo ++ [.str op to'], co := b.co + 1, va := b.va ++ [.ref at'], ca := b.ca + 1, vs := b.vs ++ [.int so ts'], cs := b.cs + 1, vd := b.vd ++ [dv], cd := b.cd + 1, onu := onu' } Z') →
      NuIs PySem.Challenge.rw_nz0152_01.row.prog w Z' onu' (xs ++ [([.s op, .t al, .i so, dk], q, .int b.vo.length t)]) → (∀ p ∈ Z, p ∈ Z') → c.Off Z' → Q (.int b.vo.length t) { s with heap := h', toks := tk' }) :
    wpAny (model PySem.Challenge.rw_nz0152_01.row.prog w) { handled := none, depth := dp, frames := some (env :: outer), guards := gd, units := un } (call (.ref 298) [.ref c.bk, .str op to', .ref at', .int so ts', dv]) Q E s := by
  refine make_G (Z := (c.sn, LO b.vn b.cn) :: (c.sw, LO b.vw b.cw) :: (c.bv, b.obv) :: Z) B F X T hf hk hdp hun (fun p hp => N p (sub_cons mem0 (sub_cons mem1 (sub_cons mem4 (sub_cons mem5 (sub_cons mem6 (sub_cons mem7 (sub_cons mem8 (sub_cons mem2 (sub_cons mem3 (sub_cons mem9 in10))))))))) p hp))
    rfl rfl rfl rfl rfl NU in3 ⟨O.o.1, l14 O, O.o.2.2.2.2.1, O.o.2.2.2.2.2.1, O.o.2.2.2.2.2.2.1, O.o.2.2.2.2.2.2.2.1⟩ (nul O)
    (ne_cons (Nat.ne_of_lt (l24 O)) (ne_cons (Nat.ne_of_lt (l34 O)) (ne_cons (Nat.ne_of_gt (l49 O)) ZO.to))) (ne_cons (Nat.ne_of_lt (l25 O)) (ne_cons (Nat.ne_of_lt (l35 O)) (ne_cons (Nat.ne_of_gt (l59 O)) ZO.ta))) (ne_cons (Nat.ne_of_lt (l26 O)) (ne_cons (Nat.ne_of_lt (l36 O)) (ne_cons (Nat.ne_of_gt (l69 O)) ZO.ts)))
    (ne_cons (Nat.ne_of_lt (l27 O)) (ne_cons (Nat.ne_of_lt (l37 O)) (ne_cons (Nat.ne_of_gt (l79 O)) ZO.td))) (ne_cons (Nat.ne_of_lt (l28 O)) (ne_cons (Nat.ne_of_lt (l38 O)) (ne_cons (Nat.ne_of_gt (l89 O)) ZO.nu)))
    hop hal hdk hnone hlen hlen2 hlen3 hlen4 hlen5 fun h' tk' t q onu' us F' N' NU' hq hz => ret h' tk' t q onu' ((q, tupO us) :: Z) F'
      (fun p hp => N' p (sub_cons mem1 (sub_cons mem2 (sub_cons mem8 (sub_cons mem9 (sub_cons mem3 (sub_cons mem4 (sub_cons mem5 (sub_cons mem6 (sub_cons mem7 (sub_cons mem10 (sub_cons mem0 in11)))))))))) p hp)) NU' in1 (ZO.above O (hz _ mem2))
set_option maxHeartbeats 20000000 in
theorem make_old {q : Addr} {i : Int} {ti : Tok} (B : Below A₀ base outer h₀) (F : Fr h₀ L s.heap m) (X : (heap w.params).In h₀) (T : Top view (looseW view []) mean mg mb h₀)
    (N : News h₀ L s.heap (bankLed w.params c b Z))
    (hf : env.frame = some L) (hk : env.scope.kind = .function) (hdp : dp ≤ 450) (hun : un ≤ 500)
    (NU : NuIs PySem.Challenge.rw_nz0152_01.row.prog w Z b.onu xs) (O : c.Ord) (ZO : c.Off Z)
    (hop : PyData.strOk op = true) (hal : EKin Z (.t al) (.ref at')) (hdk : EKin Z dk dv) (hsome : atKey xs [.s op, .t al, .i so, dk] = some (q, .int i ti)) (hi : 1 ≤ i)
    (ret : ∀ h' tk' Z', Fr h₀ L h' m → News h₀ L h' (bankLed w.params c b Z') → (∀ p ∈ Z, p ∈ Z') → c.Off Z' → Q (.int i ti) { s with heap := h', toks := tk' }) :
    wpAny (model PySem.Challenge.rw_nz0152_01.row.prog w) { handled := none, depth := dp, frames := some (env :: outer), guards := gd, units := un } (call (.ref 298) [.ref c.bk, .str op to', .ref at', .int so ts', dv]) Q E s := by
  refine wpAny_call ?_
  k_dflt (refine' code_def ?k1 ?k2 ?k3 ?k4 ?k5 ?kA ?kF ?kK ?k6 ?k7 ?k8 ?k9 ?kB ?_ ?c2 ?c3 ?c4 ?c5)
  case kA => exact rfl
  case kF => exact hf
  case kK => exact hk
  case k1 => exact B
  case k2 => exact F
  case k3 => exact X
  case k4 => exact N
  case k5 => exact T
  case k6 => k_is
  case k7 => k_is
  case k8 => ktr_room
  case k9 => exact BindsTo.of_eq rfl
  case c5 => decide
  case kB => exact locs rfl
  case c2 => exact rfl
  case c3 => exact rfl
  case c4 => exact rfl
  intro g' L' h' FG' F' N' B' X' T'
  dsimp only
  dsimp only [bankLed] at N'
  try k_fold
  k_steps
  all_goals (try delta Stop)
  rename News _ _ _ _ => N9
  refine nu_get (ks := [.s op, .t al, .i so, dk]) ?hu N9 (by k_mem) NU ?hs ?key (nul O) fun tk9 => ?_
  case hu => ktr_units
  case hs => exact in11
  case key => exact ⟨_, by k_mem, .cons ⟨_, rfl, hop⟩ (.cons (hal.mono in11) (.cons ⟨_, rfl⟩ (.cons (hdk.mono in11) .nil)))⟩
  have hi0 : ¬ i = 0 := Int.ne_of_gt hi
  have hi1 : ¬ decide (i = 0) = true := by simpa using hi0
  have hi2 : ¬ (i == 0) = true := by simpa using hi0
  rw [hsome]
  dsimp only [Option.map_some, Option.getD_some]
  k_steps
  all_goals (try delta Stop)
  refine ret _ _ _ (by assumption) (News.mid (l := [_, _, _, _, _, _, _, _, _, _]) (by assumption)) (fun p hp => .tail _ hp) (ZO.above O (by assumption))
end
end
section
open PySem PySem.W PySem.Calls PyProof.Rows
section
variable {prog : Program} {w : World} {A : Around} {E : Value → Shared → Prop} {s : Shared} {h₀ : Heap} {L d : Addr} {m : Str → Option Value} {news news' : List (Addr × Obj)} {o : Obj} {kvs : List (Int × Value)} {k : Int} {tk : Tok} {v : Value}
theorem bvd_notin0 {Q : Value → Shared → Prop} (N : News h₀ L s.heap news) (hp : (d, o) ∈ news) (hd : o.IsDictOf (PySem.intKind prog w) kvs) (lo : (d == sysModules) = false) (hv : valueAt kvs k = none) (h : Q (.bool true) { s with toks := s.toks + 1 }) :
    wpAny (model prog w) A (compareOp .NotIn (.int k tk) (.ref d)) Q E s := wpAny_notIn_of (knd := PySem.intKind prog w) (k := k) (intKind_is _ _ _ _) lo (kda_dict N hp hd).mapOf (by rw [hv]; exact h)
theorem bvd_notin1 {Q : Value → Shared → Prop} (N : News h₀ L s.heap news) (hp : (d, o) ∈ news) (hd : o.IsDictOf (PySem.intKind prog w) kvs) (lo : (d == sysModules) = false) (hv : valueAt kvs k = some v) (h : Q (.bool false) { s with toks := s.toks + 1 }) :
    wpAny (model prog w) A (compareOp .NotIn (.int k tk) (.ref d)) Q E s := wpAny_notIn_of (knd := PySem.intKind prog w) (k := k) (intKind_is _ _ _ _) lo (kda_dict N hp hd).mapOf (by rw [hv]; exact h)
theorem bvd_get {Q : Value → Shared → Prop} (N : News h₀ L s.heap news) (hp : (d, o) ∈ news) (hd : o.IsDictOf (PySem.intKind prog w) kvs) (hv : valueAt kvs k = some v) (h : Q v { s with toks := s.toks + 1 }) :
    wpAny (model prog w) A (getItem (.ref d) (.int k tk)) Q E s := wpAny_getItem_of (knd := PySem.intKind prog w) (intKind_is _ _ _ _) (kda_dict N hp hd).mapOf hv h
theorem bvd_item {value slice : PySem.Expr} {Q : Value → Shared → Prop} (N : News h₀ L s.heap news) (hp : (d, o) ∈ news) (hd : o.IsDictOf (PySem.intKind prog w) kvs) (hv : valueAt kvs k = some v) (h : Q v { s with toks := s.toks + 1 })
    (hs : subscripted slice false (.ref d) (.int k tk) = operate [.ref d, .int k tk] (getItem (.ref d) (.int k tk)) := by with_unfolding_all rfl) (hg : ∀ r, letTemporaryGo value (.ref d) r = pure () := by intro _; with_unfolding_all rfl) :
    wpAny (model prog w) A (subscriptTail value slice (.ref d) (.int k tk)) Q E s := kda_item N hp hd (intKind_is _ _ _ _) hv h hs hg
theorem bvd_set {g : Obj → List (Addr × Obj)} {Q : Unit → Shared → Prop} (F : Fr h₀ L s.heap m) (N : News h₀ L s.heap news) (U : UpdF d o news g) (hd : o.IsDictOf (PySem.intKind prog w) kvs) (hsz : kvs.length ≤ 100000)
    (h : ∀ h' o', Fr h₀ L h' m → News h₀ L h' (g o') → o'.IsDictOf (PySem.intKind prog w) (stored kvs k v) → Q () { s with heap := h', toks := s.toks + 1 }) : wpAny (model prog w) A (setItem (.ref d) (.int k tk) v) Q E s :=
  kda_set F N U hd (intKind_is _ _ _ _) (by rw [sizeLine_eq]; omega) h
end
set_option hygiene false in
local macro_rules | `(tactic| walk_at "compareOp NotIn int ref") => `(tactic| (k_here; k_dflt (first | (refine' bvd_notin0 (by k_asm) (by k_mem) (by assumption) (by assumption) (by assumption) ?_; k_whole) | (refine' bvd_notin1 (by k_asm) (by k_mem) (by assumption) (by assumption) (by assumption) ?_; k_whole))))
set_option hygiene false in
local macro_rules | `(tactic| walk_at "getItem ref int") => `(tactic| (k_here; (with_reducible refine g_get ?_); k_dflt (refine' bvd_get (by k_asm) (by k_mem) (by assumption) (by first | with_reducible assumption | exact at_self (by with_reducible assumption)) ?_; k_whole)))
set_option hygiene false in
local macro_rules | `(tactic| walk_at "subscriptTail") => `(tactic| (k_here; (with_reducible refine g_item ?_); k_dflt (refine' bvd_item (by k_asm) (by k_mem) (by assumption) (by first | with_reducible assumption | exact at_self (by with_reducible assumption)) ?_; k_whole)))
set_option hygiene false in
local macro_rules | `(tactic| walk_at "setItem ref int") => `(tactic| (k_here; k_dflt (refine' bvd_set (by k_asm) (by k_asm) (by k_updF) (by assumption) (by walk_at "le") ?_; k_whole); intro _ _ _ N9 _; (try dsimp only at N9); (try k_sweep)))
theorem st_new {kvs : List (Int × Value)} {k : Int} {v : Value} (h : valueAt kvs k = none) : stored kvs k v = kvs ++ [(k, v)] := by
  have : ¬ (kvs.any fun kv => decide (kv.1 = k)) = true := by
    intro hh
    obtain ⟨x, hx, he⟩ := List.any_eq_true.mp hh
    simp only [valueAt, Option.map_eq_none_iff, List.find?_eq_none] at h
    exact h x hx he
  unfold stored
  simp_all
theorem at_snoc {kvs : List (Int × Value)} {k k' : Int} {v : Value} (h : valueAt kvs k = none) : valueAt (kvs ++ [(k, v)]) k' = if k' = k then some v else valueAt kvs k' := by
  unfold valueAt at h ⊢
  rw [List.find?_append]
  split
  · subst k'; rw [Option.map_eq_none_iff.mp h]; simp
  · cases hf : kvs.find? fun kv => decide (kv.1 = k') <;> simp_all; omega
theorem at_self {kvs : List (Int × Value)} {k : Int} {v : Value} (h : valueAt kvs k = none) : valueAt (stored kvs k v) k = some v := by
  rw [st_new h, at_snoc h]; simp
theorem len_m1 (v : List Value) (x : Value) : ((v ++ [x]).length : Int) - 1 = v.length := by simp
noncomputable abbrev bvName (wd : Int) : Str := Str.empty ++ Str.ofString "(_ BitVec " ++ Str.ofString (toString wd) ++ Str.ofString ")"
section
variable {w : World} {mean : ExcName → Option Value} {mg mb : Str → Option Value} {dp un : Nat} {gd : Option (List Code)} {env : Env} {outer : List Env} {A₀ : Around} {base h₀ : Heap} {L : Addr} {m : Str → Option Value} {s : Shared} {Q E : Value → Shared → Prop}
    {c : BA} {b : BSt} {bs : List (Int × Value)} {Z : List (Addr × Obj)} {wd : Int} {tw : Tok}
set_option maxHeartbeats 20000000 in
theorem bv_new (B : Below A₀ base outer h₀) (F : Fr h₀ L s.heap m) (X : (heap w.params).In h₀) (T : Top view (looseW view []) mean mg mb h₀)
    (hf : env.frame = some L) (hk : env.scope.kind = .function) (hdp : dp ≤ 450) (hun : un ≤ 500)
    (N : News h₀ L s.heap (bankLed w.params c b Z)) (hbd : b.obv.IsDictOf (PySem.intKind PySem.Challenge.rw_nz0152_01.row.prog w) bs) (O : c.Ord) (ZO : c.Off Z)
    (h1 : 1 ≤ wd) (h2 : wd ≤ 4096) (hbv : valueAt bs wd = none) (hlen : b.vn.length ≤ 900) (hlen2 : b.vw.length ≤ 900) (hlen3 : bs.length ≤ 900)
    (ret : ∀ h' tk' t tx tw' o', Fr h₀ L h' m → News h₀ L h' (bankLed w.params c { b with vn := b.vn ++ [.str (bvName wd) tx], cn := b.cn + 1, vw := b.vw ++ [.int wd tw'], cw := b.cw + 1, obv := o' } Z) → o'.IsDictOf (PySem.intKind PySem.Challenge.rw_nz0152_01.row.prog w) (bs ++ [(wd, .int b.vn.length t)]) → Q (.int b.vn.length t) { s with heap := h', toks := tk' }) :
    wpAny (model PySem.Challenge.rw_nz0152_01.row.prog w) { handled := none, depth := dp, frames := some (env :: outer), guards := gd, units := un } (call (.ref 583) [.ref c.bk, .int wd tw]) Q E s := by
  have e02 : @LT.lt Nat _ c.bd c.sn := l02 O
  have e03 : @LT.lt Nat _ c.bd c.sw := l03 O
  have e09 : @LT.lt Nat _ c.bd c.bv := l09 O
  have e12 : @LT.lt Nat _ c.bk c.sn := l12 O
  have e13 : @LT.lt Nat _ c.bk c.sw := l13 O
  have e19 : @LT.lt Nat _ c.bk c.bv := l19 O
  have e23 : @LT.lt Nat _ c.sn c.sw := l23 O
  have e24 : @LT.lt Nat _ c.sn c.to := l24 O
  have e25 : @LT.lt Nat _ c.sn c.ta := l25 O
  have e26 : @LT.lt Nat _ c.sn c.ts := l26 O
  have e27 : @LT.lt Nat _ c.sn c.td := l27 O
  have e28 : @LT.lt Nat _ c.sn c.nu := l28 O
  have e29 : @LT.lt Nat _ c.sn c.bv := l29 O
  have e34 : @LT.lt Nat _ c.sw c.to := l34 O
  have e35 : @LT.lt Nat _ c.sw c.ta := l35 O
  have e36 : @LT.lt Nat _ c.sw c.ts := l36 O
  have e37 : @LT.lt Nat _ c.sw c.td := l37 O
  have e38 : @LT.lt Nat _ c.sw c.nu := l38 O
  have e39 : @LT.lt Nat _ c.sw c.bv := l39 O
  have e49 : @LT.lt Nat _ c.to c.bv := l49 O
  have e59 : @LT.lt Nat _ c.ta c.bv := l59 O
  have e69 : @LT.lt Nat _ c.ts c.bv := l69 O
  have e79 : @LT.lt Nat _ c.td c.bv := l79 O
  have e89 : @LT.lt Nat _ c.nu c.bv := l89 O
  have zsn := ZO.sn
  have zsw := ZO.sw
  have zbv := ZO.bv
  have lo2 := bvl O
  have q0 : (Str.ofString (toString wd)).length ≤ 10 := PyProof.Rows.toString_length_le (by omega) (by decide) (by omega)
  have q1 : (Str.ofString "(_ BitVec " ++ Str.ofString (toString wd)).length ≤ 16777216 := slen (m := 10) (n := 10) (by decide) q0 rfl
  have q2 : (Str.ofString "(_ BitVec " ++ Str.ofString (toString wd) ++ Str.ofString ")").length ≤ 16777216 := slen (m := 20) (n := 1) (slen (m := 10) (n := 10) (by decide) q0 rfl) (by decide) rfl
  clear q0
  refine wpAny_call ?_
  k_dflt (refine' code_def ?k1 ?k2 ?k3 ?k4 ?k5 ?kA ?kF ?kK ?k6 ?k7 ?k8 ?k9 ?kB ?_ ?c2 ?c3 ?c4 ?c5)
  case kA => exact rfl
  case kF => exact hf
  case kK => exact hk
  case k1 => exact B
  case k2 => exact F
  case k3 => exact X
  case k4 => exact N
  case k5 => exact T
  case k6 => k_is
  case k7 => k_is
  case k8 => ktr_room
  case k9 => exact BindsTo.of_eq rfl
  case c5 => decide
  case kB => exact locs rfl
  case c2 => exact rfl
  case c3 => exact rfl
  case c4 => exact rfl
  intro g' L' h' FG' F' N' B' X' T'
  dsimp only
  dsimp only [bankLed] at N'
  try k_fold
  k_steps
  all_goals (try delta Stop)
  rename Obj.IsDictOf _ _ _ => D9
  rw [st_new hbv] at D9
  rw [len_m1] at D9 ⊢
  exact ret _ _ _ _ _ _ (by assumption) (by assumption) D9
end
end
end
section
open PySem PySem.W PySem.Calls PyProof.Rows
/-- which list of the bank's a def reads -/
inductive BG (c : BA) : Addr → Addr → Prop
  | op : BG c 256 c.to | args : BG c 263 c.ta | sort : BG c 270 c.ts | data : BG c 277 c.td | name : BG c 172 c.sn
theorem nc3 {h₀ h : Heap} {L : Addr} {Y : List (Addr × Obj)} {x y z : Addr × Obj} (N : News h₀ L h Y) (h1 : x ∈ Y) (h2 : y ∈ Y) (h3 : z ∈ Y) : News h₀ L h (x :: y :: z :: Y) := fun p hp => N p (sub_cons h1 (sub_cons h2 (sub_cons h3 fun _ h => h)) p hp)
theorem nc4 {h₀ h : Heap} {L : Addr} {Y : List (Addr × Obj)} {x y z u : Addr × Obj} (N : News h₀ L h Y) (h1 : x ∈ Y) (h2 : y ∈ Y) (h3 : z ∈ Y) (h4 : u ∈ Y) : News h₀ L h (x :: y :: z :: u :: Y) := fun p hp => N p (sub_cons h1 (sub_cons h2 (sub_cons h3 (sub_cons h4 fun _ h => h))) p hp)
section
variable {w : World} {mean : ExcName → Option Value} {mg mb : Str → Option Value} {dp un : Nat} {gd : Option (List Code)} {env : Env} {outer : List Env} {A₀ : Around} {base h₀ : Heap} {L : Addr} {m : Str → Option Value} {s : Shared} {Q E : Value → Shared → Prop}
    {c : BA} {news : List (Addr × Obj)} {f l : Addr} {vs ws : List Value} {n n2 : Nat} {t sx : Int} {tt tsx : Tok} {v : Value}
set_option maxHeartbeats 20000000 in
theorem bget (B : Below A₀ base outer h₀) (F : Fr h₀ L s.heap m) (X : (heap w.params).In h₀) (T : Top view (looseW view []) mean mg mb h₀)
    (hf : env.frame = some L) (hk : env.scope.kind = .function) (hdp : dp ≤ 450) (hun : un ≤ 500)
    (N : News h₀ L s.heap news) (g : BG c f l) (h1 : (c.bk, instObj 677 c.bd) ∈ news) (h2 : (c.bd, bankDict w.params c) ∈ news) (h3 : (l, LO vs n) ∈ news) (hx : vs[t.toNat]? = some v) (h0 : 0 ≤ t) (h9 : t < 100000)
    (ret : ∀ h' tk', Fr h₀ L h' m → News h₀ L h' news → Q v { s with heap := h', toks := tk' }) :
    wpAny (model PySem.Challenge.rw_nz0152_01.row.prog w) { handled := none, depth := dp, frames := some (env :: outer), guards := gd, units := un } (call (.ref f) [.ref c.bk, .int t tt]) Q E s := by
  have N := nc3 N h1 h2 h3
  cases g
  all_goals
    refine wpAny_call ?_
    k_dflt (refine' code_def ?k1 ?k2 ?k3 ?k4 ?k5 ?kA ?kF ?kK ?k6 ?k7 ?k8 ?k9 ?kB ?_ ?c2 ?c3 ?c4 ?c5)
    case kA => exact rfl
    case kF => exact hf
    case kK => exact hk
    case k1 => exact B
    case k2 => exact F
    case k3 => exact X
    case k4 => exact N
    case k5 => exact T
    case k6 => k_is
    case k7 => k_is
    case k8 => ktr_room
    case k9 => exact BindsTo.of_eq rfl
    case c5 => decide
    case kB => exact locs rfl
    case c2 => exact rfl
    case c3 => exact rfl
    case c4 => exact rfl
    intro g' L' h' FG' F' N' B' X' T'
    dsimp only
    try k_fold
    k_steps
    all_goals (try delta Stop)
    rename News h₀ L _ _ => N7
    exact ret _ _ (by assumption) (fun p hp => N7 p (in3 p hp))
set_option maxHeartbeats 20000000 in
theorem bwidth (B : Below A₀ base outer h₀) (F : Fr h₀ L s.heap m) (X : (heap w.params).In h₀) (T : Top view (looseW view []) mean mg mb h₀)
    (hf : env.frame = some L) (hk : env.scope.kind = .function) (hdp : dp ≤ 450) (hun : un ≤ 500)
    (N : News h₀ L s.heap news) (h1 : (c.bk, instObj 677 c.bd) ∈ news) (h2 : (c.bd, bankDict w.params c) ∈ news) (h3 : (c.ts, LO vs n) ∈ news) (h4 : (c.sw, LO ws n2) ∈ news) (hx : vs[t.toNat]? = some (.int sx tsx)) (hy : ws[sx.toNat]? = some v) (h0 : 0 ≤ t) (h9 : t < 100000) (g0 : 0 ≤ sx) (g9 : sx < 100000)
    (ret : ∀ h' tk', Fr h₀ L h' m → News h₀ L h' news → Q v { s with heap := h', toks := tk' }) :
    wpAny (model PySem.Challenge.rw_nz0152_01.row.prog w) { handled := none, depth := dp, frames := some (env :: outer), guards := gd, units := un } (call (.ref 284) [.ref c.bk, .int t tt]) Q E s := by
  have N := nc4 N h1 h2 h3 h4
  refine wpAny_call ?_
  k_dflt (refine' code_def ?k1 ?k2 ?k3 ?k4 ?k5 ?kA ?kF ?kK ?k6 ?k7 ?k8 ?k9 ?kB ?_ ?c2 ?c3 ?c4 ?c5)
  case kA => exact rfl
  case kF => exact hf
  case kK => exact hk
  case k1 => exact B
  case k2 => exact F
  case k3 => exact X
  case k4 => exact N
  case k5 => exact T
  case k6 => k_is
  case k7 => k_is
  case k8 => ktr_room
  case k9 => exact BindsTo.of_eq rfl
  case c5 => decide
  case kB => exact locs rfl
  case c2 => exact rfl
  case c3 => exact rfl
  case c4 => exact rfl
  intro g' L' h' FG' F' N' B' X' T'
  dsimp only
  try k_fold
  k_steps
  all_goals (try delta Stop)
  rename News h₀ L _ _ => N7
  exact ret _ _ (by assumption) (fun p hp => N7 p (in4 p hp))
set_option maxHeartbeats 20000000 in
theorem bsize (B : Below A₀ base outer h₀) (F : Fr h₀ L s.heap m) (X : (heap w.params).In h₀) (T : Top view (looseW view []) mean mg mb h₀)
    (hf : env.frame = some L) (hk : env.scope.kind = .function) (hdp : dp ≤ 450) (hun : un ≤ 500)
    (N : News h₀ L s.heap news) (h1 : (c.bk, instObj 677 c.bd) ∈ news) (h2 : (c.bd, bankDict w.params c) ∈ news) (h3 : (c.to, LO vs n) ∈ news) (hz : vs.length ≤ 100000)
    (ret : ∀ h' tk' t, Fr h₀ L h' m → News h₀ L h' news → Q (.int ((vs.length : Int) - 1) t) { s with heap := h', toks := tk' }) :
    wpAny (model PySem.Challenge.rw_nz0152_01.row.prog w) { handled := none, depth := dp, frames := some (env :: outer), guards := gd, units := un } (call (.ref 291) [.ref c.bk]) Q E s := by
  have N := nc3 N h1 h2 h3
  refine wpAny_call ?_
  k_dflt (refine' code_def ?k1 ?k2 ?k3 ?k4 ?k5 ?kA ?kF ?kK ?k6 ?k7 ?k8 ?k9 ?kB ?_ ?c2 ?c3 ?c4 ?c5)
  case kA => exact rfl
  case kF => exact hf
  case kK => exact hk
  case k1 => exact B
  case k2 => exact F
  case k3 => exact X
  case k4 => exact N
  case k5 => exact T
  case k6 => k_is
  case k7 => k_is
  case k8 => ktr_room
  case k9 => exact BindsTo.of_eq rfl
  case c5 => decide
  case kB => exact locs rfl
  case c2 => exact rfl
  case c3 => exact rfl
  case c4 => exact rfl
  intro g' L' h' FG' F' N' B' X' T'
  dsimp only
  try k_fold
  k_steps
  all_goals (try delta Stop)
  rename News h₀ L _ _ => N7
  exact ret _ _ _ (by assumption) (fun p hp => N7 p (in3 p hp))
end
end
set_option hygiene false in
local macro_rules | `(tactic| walk_at "by fact") => `(tactic| first | with_reducible assumption | omega)
set_option hygiene false in
local macro_rules | `(tactic| walk_at "call ref") => `(tactic| (k_here; k_dflt (first | ((with_reducible refine g_bget ?_); refine' bget (by k_asm) (by k_asm) (by k_asm) (by k_asm) (by first | exact rfl | assumption) (by first | exact rfl | assumption) (by exact dle (by with_reducible assumption) rfl) (by exact ule (by with_reducible assumption) rfl) (by k_asm) (by constructor) (by k_mem) (by k_mem) (by k_mem) (by with_reducible assumption) (by walk_at "by fact") (by walk_at "by fact") ?_; k_whole) | ((with_reducible refine g_bwid ?_); refine' bwidth (by k_asm) (by k_asm) (by k_asm) (by k_asm) (by first | exact rfl | assumption) (by first | exact rfl | assumption) (by exact dle (by with_reducible assumption) rfl) (by exact ule (by with_reducible assumption) rfl) (by k_asm) (by k_mem) (by k_mem) (by k_mem) (by k_mem) (by with_reducible assumption) (by with_reducible assumption) (by walk_at "by fact") (by walk_at "by fact") (by walk_at "by fact") (by walk_at "by fact") ?_; k_whole)); intro _ _ _ _; (try k_sweep)))
set_option hygiene false in
local macro_rules | `(tactic| walk_at "call ref") => `(tactic| (k_here; (with_reducible refine g_bsize ?_); k_dflt (refine' bsize (by k_asm) (by k_asm) (by k_asm) (by k_asm) (by first | exact rfl | assumption) (by first | exact rfl | assumption) (by exact dle (by with_reducible assumption) rfl) (by exact ule (by with_reducible assumption) rfl) (by k_asm) (by k_mem) (by k_mem) (by k_mem) (by walk_at "le") ?_; k_whole); intro _ _ _ _ _; (try k_sweep)))
set_option hygiene false in
local macro_rules | `(tactic| walk_at "compareOp NotIn int ref") => `(tactic| (k_here; k_dflt (first | (refine' bvd_notin0 (by k_asm) (by k_mem) (by assumption) (by assumption) (by assumption) ?_; k_whole) | (refine' bvd_notin1 (by k_asm) (by k_mem) (by assumption) (by assumption) (by assumption) ?_; k_whole))))
section
open PySem PySem.W PySem.Calls PyProof.Rows
section
variable {w : World} {mean : ExcName → Option Value} {mg mb : Str → Option Value} {dp un : Nat} {gd : Option (List Code)} {env : Env} {outer : List Env} {A₀ : Around} {base h₀ : Heap} {L : Addr} {m : Str → Option Value} {s : Shared} {Q E : Value → Shared → Prop}
    {c : BA} {b : BSt} {bs : List (Int × Value)} {Z : List (Addr × Obj)} {wd : Int} {tw : Tok} {v : Value}
set_option maxHeartbeats 20000000 in
theorem bv_old (B : Below A₀ base outer h₀) (F : Fr h₀ L s.heap m) (X : (heap w.params).In h₀) (T : Top view (looseW view []) mean mg mb h₀)
    (hf : env.frame = some L) (hk : env.scope.kind = .function) (hdp : dp ≤ 450) (hun : un ≤ 500)
    (N : News h₀ L s.heap (bankLed w.params c b Z)) (hbd : b.obv.IsDictOf (PySem.intKind PySem.Challenge.rw_nz0152_01.row.prog w) bs) (O : c.Ord) (ZO : c.Off Z)
    (h1 : 1 ≤ wd) (h2 : wd ≤ 4096) (hbv : valueAt bs wd = some v)
    (ret : ∀ h' tk', Fr h₀ L h' m → News h₀ L h' (bankLed w.params c b Z) → Q v { s with heap := h', toks := tk' }) :
    wpAny (model PySem.Challenge.rw_nz0152_01.row.prog w) { handled := none, depth := dp, frames := some (env :: outer), guards := gd, units := un } (call (.ref 583) [.ref c.bk, .int wd tw]) Q E s := by
  have lo2 := bvl O
  refine wpAny_call ?_
  k_dflt (refine' code_def ?k1 ?k2 ?k3 ?k4 ?k5 ?kA ?kF ?kK ?k6 ?k7 ?k8 ?k9 ?kB ?_ ?c2 ?c3 ?c4 ?c5)
  case kA => exact rfl
  case kF => exact hf
  case kK => exact hk
  case k1 => exact B
  case k2 => exact F
  case k3 => exact X
  case k4 => exact N
  case k5 => exact T
  case k6 => k_is
  case k7 => k_is
  case k8 => ktr_room
  case k9 => exact BindsTo.of_eq rfl
  case c5 => decide
  case kB => exact locs rfl
  case c2 => exact rfl
  case c3 => exact rfl
  case c4 => exact rfl
  intro g' L' h' FG' F' N' B' X' T'
  dsimp only
  dsimp only [bankLed] at N'
  try k_fold
  k_steps
  all_goals (try delta Stop)
  refine' bvd_get ?k1 ?k2 ?k3 hbv ?_
  case k1 => k_asm
  case k2 => k_mem
  case k3 => assumption
  k_steps
  all_goals (try delta Stop)
  exact ret _ _ (by assumption) (by assumption)
set_option maxHeartbeats 20000000 in
theorem bv_limit (B : Below A₀ base outer h₀) (F : Fr h₀ L s.heap m) (X : (heap w.params).In h₀) (T : Top view (looseW view []) mean mg mb h₀)
    (hf : env.frame = some L) (hk : env.scope.kind = .function) (hdp : dp ≤ 445) (hun : un ≤ 485)
    (N : News h₀ L s.heap (bankLed w.params c b Z)) (O : c.Ord) (ZO : c.Off Z)
    (h2 : 4096 < wd)
    (exc : ∀ e t vs h' tk' G, Fr h₀ L G m → RaisedS base G (env :: outer) e (.ref 86) t vs (bankLed w.params c b Z) h' → G.UpToSlots h' → E (.ref e) { s with heap := h', toks := tk' }) :
    wpAny (model PySem.Challenge.rw_nz0152_01.row.prog w) { handled := none, depth := dp, frames := some (env :: outer), guards := gd, units := un } (call (.ref 583) [.ref c.bk, .int wd tw]) Q E s := by
  have lo2 := bvl O
  have q0 : (Str.ofString (toString (4096 : Int))).length ≤ 10 := PyProof.Rows.toString_length_le (by decide) (by decide) (by decide)
  have q1 : (Str.ofString "a bit vector has at most " ++ Str.ofString (toString (4096 : Int))).length ≤ 16777216 := slen (m := 25) (n := 10) (by decide) q0 rfl
  have q2 : (Str.ofString "a bit vector has at most " ++ Str.ofString (toString (4096 : Int)) ++ Str.ofString " bits").length ≤ 16777216 := slen (m := 35) (n := 5) (slen (m := 25) (n := 10) (by decide) q0 rfl) (by decide) rfl
  clear q0
  refine wpAny_call ?_
  k_dflt (refine' code_def ?k1 ?k2 ?k3 ?k4 ?k5 ?kA ?kF ?kK ?k6 ?k7 ?k8 ?k9 ?kB ?_ ?c2 ?c3 ?c4 ?c5)
  case kA => exact rfl
  case kF => exact hf
  case kK => exact hk
  case k1 => exact B
  case k2 => exact F
  case k3 => exact X
  case k4 => exact N
  case k5 => exact T
  case k6 => k_is
  case k7 => k_is
  case k8 => ktr_room
  case k9 => exact BindsTo.of_eq rfl
  case c5 => decide
  case kB => exact locs rfl
  case c2 => exact rfl
  case c3 => exact rfl
  case c4 => exact rfl
  intro g' L' h' FG' F' N' B' X' T'
  dsimp only
  dsimp only [bankLed] at N'
  try k_fold
  k_steps
  all_goals (try delta Stop)
  refine exc_raise86 B' F' X' T' rfl rfl (dle hdp rfl) (ule hun rfl) fun e5 h5 tk5 D5 => ?_
  show wpAny _ _ (leaving _ _) _ _ _
  refine leave_raiseD B' D5 F' N' fun h6 t6 R6 U6 => ?_
  exact exc _ _ _ _ _ _ FG' R6 U6
/-- a term's sort, its width and its name -/
noncomputable def TermW (b : BSt) (t wx : Int) : Prop := ∃ sx tsx twx nm tnm, b.vs[t.toNat]? = some (.int sx tsx) ∧ b.vw[sx.toNat]? = some (.int wx twx) ∧ b.vn[sx.toNat]? = some (.str nm tnm) ∧ nm.length ≤ 60 ∧ 0 ≤ t ∧ 0 ≤ sx ∧ t < 100000 ∧ sx < 100000
set_option maxHeartbeats 20000000 in
theorem want_ok (B : Below A₀ base outer h₀) (F : Fr h₀ L s.heap m) (X : (heap w.params).In h₀) (T : Top view (looseW view []) mean mg mb h₀)
    (hf : env.frame = some L) (hk : env.scope.kind = .function) (hdp : dp ≤ 445) (hun : un ≤ 485) {t wx : Int} {tt twh : Tok} {wh : Str}
    (N : News h₀ L s.heap (bankLed w.params c b Z)) (O : c.Ord) (ZO : c.Off Z)
    (W9 : TermW b t wx) (hw : wx ≠ 0)
    (ret : ∀ h' tk', Fr h₀ L h' m → News h₀ L h' (bankLed w.params c b Z) → Q .none { s with heap := h', toks := tk' }) :
    wpAny (model PySem.Challenge.rw_nz0152_01.row.prog w) { handled := none, depth := dp, frames := some (env :: outer), guards := gd, units := un } (call (.ref 597) [.ref c.bk, .int t tt, .str wh twh]) Q E s := by
  have lo2 := bvl O
  obtain ⟨sx, tsx, twx, nm, tnm, ht1, ht2, ht3, hnl, ht4, ht5, ht6, ht7⟩ := W9
  refine wpAny_call ?_
  k_dflt (refine' code_def ?k1 ?k2 ?k3 ?k4 ?k5 ?kA ?kF ?kK ?k6 ?k7 ?k8 ?k9 ?kB ?_ ?c2 ?c3 ?c4 ?c5)
  case kA => exact rfl
  case kF => exact hf
  case kK => exact hk
  case k1 => exact B
  case k2 => exact F
  case k3 => exact X
  case k4 => exact N
  case k5 => exact T
  case k6 => k_is
  case k7 => k_is
  case k8 => ktr_room
  case k9 => exact BindsTo.of_eq rfl
  case c5 => decide
  case kB => exact locs rfl
  case c2 => exact rfl
  case c3 => exact rfl
  case c4 => exact rfl
  intro g' L' h' FG' F' N' B' X' T'
  dsimp only
  dsimp only [bankLed] at N'
  try k_fold
  k_steps
  all_goals (try delta Stop)
  · exfalso; simp_all
  · exact ret _ _ (by assumption) (by assumption)
set_option maxHeartbeats 20000000 in
theorem want_bad (B : Below A₀ base outer h₀) (F : Fr h₀ L s.heap m) (X : (heap w.params).In h₀) (T : Top view (looseW view []) mean mg mb h₀)
    (hf : env.frame = some L) (hk : env.scope.kind = .function) (hdp : dp ≤ 445) (hun : un ≤ 485) {t : Int} {tt twh : Tok} {wh : Str}
    (N : News h₀ L s.heap (bankLed w.params c b Z)) (O : c.Ord) (ZO : c.Off Z)
    (W9 : TermW b t 0) (hwl : wh.length ≤ 20)
    (exc : ∀ e t vs h' tk' G, Fr h₀ L G m → RaisedS base G (env :: outer) e (.ref 67) t vs (bankLed w.params c b Z) h' → G.UpToSlots h' → E (.ref e) { s with heap := h', toks := tk' }) :
    wpAny (model PySem.Challenge.rw_nz0152_01.row.prog w) { handled := none, depth := dp, frames := some (env :: outer), guards := gd, units := un } (call (.ref 597) [.ref c.bk, .int t tt, .str wh twh]) Q E s := by
  have lo2 := bvl O
  obtain ⟨sx, tsx, twx, nm, tnm, ht1, ht2, ht3, hnl, ht4, ht5, ht6, ht7⟩ := W9
  refine wpAny_call ?_
  k_dflt (refine' code_def ?k1 ?k2 ?k3 ?k4 ?k5 ?kA ?kF ?kK ?k6 ?k7 ?k8 ?k9 ?kB ?_ ?c2 ?c3 ?c4 ?c5)
  case kA => exact rfl
  case kF => exact hf
  case kK => exact hk
  case k1 => exact B
  case k2 => exact F
  case k3 => exact X
  case k4 => exact N
  case k5 => exact T
  case k6 => k_is
  case k7 => k_is
  case k8 => ktr_room
  case k9 => exact BindsTo.of_eq rfl
  case c5 => decide
  case kB => exact locs rfl
  case c2 => exact rfl
  case c3 => exact rfl
  case c4 => exact rfl
  intro g' L' h' FG' F' N' B' X' T'
  dsimp only
  dsimp only [bankLed] at N'
  try k_fold
  k_steps
  all_goals (try delta Stop)
  rename Fr g' L' _ _ => F9
  rename News g' L' _ _ => N9
  refine exc_raise67 B' F9 (by assumption) (by assumption) rfl rfl (dle hdp rfl) (ule hun rfl) fun e5 h5 tk5 D5 => ?_
  show wpAny _ _ (leaving _ _) _ _ _
  refine leave_raiseD B' D5 F9 N9 fun h6 t6 R6 U6 => ?_
  exact exc _ _ _ _ _ _ FG' R6 U6
end
end
section
open PySem PySem.W PySem.Calls PyProof.Rows
structure Tm where
  op : Str
  al : List Int
  so : Int
  dk : EK
noncomputable def Tm.key (T : Tm) : List EK := [.s T.op, .t T.al, .i T.so, T.dk]
theorem Tm.key_inj {a b : Tm} (h : a.key = b.key) : a = b := by
  cases a; cases b; simp [Tm.key] at h; simp [h]
structure TmAt (Z : List (Addr × Obj)) (b : BSt) (i : Nat) (T : Tm) : Prop where
  op : ∃ tk, b.vo[i]? = some (.str T.op tk)
  al : ∃ a, b.va[i]? = some (.ref a) ∧ EKin Z (.t T.al) (.ref a)
  so : ∃ tk, b.vs[i]? = some (.int T.so tk)
  dk : ∃ v, b.vd[i]? = some v ∧ EKin Z T.dk v
structure SoAt (b : BSt) (j : Nat) (x : Int) : Prop where
  w : ∃ tk, b.vw[j]? = some (.int x tk)
  n : ∃ nm tk, b.vn[j]? = some (.str nm tk) ∧ nm.length ≤ 60 ∧ (3 ≤ j → nm = bvName x)
  p : 3 ≤ j → 1 ≤ x ∧ x ≤ 4096
  z : j < 3 → x = 0
structure BInv (w : World) (Z : List (Addr × Obj)) (b : BSt) (ts : List Tm) (sw : List Int) : Prop where
  nt : b.vo.length = ts.length ∧ b.va.length = ts.length ∧ b.vs.length = ts.length ∧ b.vd.length = ts.length ∧ 1 ≤ ts.length
  tm : ∀ i T, ts[i]? = some T → TmAt Z b i T
  ns : b.vn.length = sw.length ∧ b.vw.length = sw.length ∧ 3 ≤ sw.length
  so : ∀ j x, sw[j]? = some x → SoAt b j x
  bv : ∃ bs, b.obv.IsDictOf (PySem.intKind PySem.Challenge.rw_nz0152_01.row.prog w) bs ∧ bs.length ≤ sw.length ∧ (∀ x v, valueAt bs x = some v → ∃ (j : Nat) (tk : Tok), v = .int j tk ∧ sw[j]? = some x ∧ 3 ≤ j) ∧ (∀ (j : Nat) x, sw[j]? = some x → 3 ≤ j → ∃ tk, valueAt bs x = some (.int j tk))
  nu : ∃ xs, NuIs PySem.Challenge.rw_nz0152_01.row.prog w Z b.onu xs ∧ xs.length ≤ ts.length ∧ (∀ k p, atKey xs k = some p → ∃ (i : Nat) (T : Tm) (tk : Tok), ts[i]? = some T ∧ 1 ≤ i ∧ p.2 = .int i tk ∧ k = T.key) ∧ (∀ (i : Nat) T, ts[i]? = some T → 1 ≤ i → ∃ q tk, atKey xs T.key = some (q, .int i tk))
theorem TmAt.mono {Z Z' : List (Addr × Obj)} {b : BSt} {i : Nat} {T : Tm} (hs : ∀ p ∈ Z, p ∈ Z') (x : TmAt Z b i T) : TmAt Z' b i T :=
  ⟨x.op, let ⟨a, h1, h2⟩ := x.al; ⟨a, h1, h2.mono hs⟩, x.so, let ⟨v, h1, h2⟩ := x.dk; ⟨v, h1, h2.mono hs⟩⟩
theorem BInv.mono {w : World} {Z Z' : List (Addr × Obj)} {b : BSt} {ts : List Tm} {sw : List Int} (hs : ∀ p ∈ Z, p ∈ Z') (x : BInv w Z b ts sw) : BInv w Z' b ts sw :=
  ⟨x.nt, fun i T h => (x.tm i T h).mono hs, x.ns, x.so, x.bv, let ⟨xs, h1, h2⟩ := x.nu; ⟨xs, h1.mono hs, h2⟩⟩
/-- the width of a term -/
noncomputable def wof (ts : List Tm) (sw : List Int) (t wx : Int) : Prop := 0 ≤ t ∧ ∃ T, ts[t.toNat]? = some T ∧ 0 ≤ T.so ∧ sw[T.so.toNat]? = some wx
theorem BInv.termW {w : World} {Z : List (Addr × Obj)} {b : BSt} {ts : List Tm} {sw : List Int} {t wx : Int} (x : BInv w Z b ts sw) (h : wof ts sw t wx) (h1 : ts.length ≤ 900) (h2 : sw.length ≤ 900) : TermW b t wx := by
  obtain ⟨h0, T, hT, hs, hw⟩ := h
  obtain ⟨tk, e1⟩ := (x.tm _ _ hT).so
  obtain ⟨tk2, e2⟩ := (x.so _ _ hw).w
  obtain ⟨nm, tk3, e3, e4, _⟩ := (x.so _ _ hw).n
  have l1 := (List.getElem?_eq_some_iff.mp hT).1
  have l2 := (List.getElem?_eq_some_iff.mp hw).1
  exact ⟨T.so, tk, tk2, nm, tk3, e1, e2, e3, e4, h0, hs, sol l1 h1, sol l2 h2⟩
theorem bvName_len {x : Int} (h0 : 0 ≤ x) (h1 : x ≤ 4096) : (bvName x).length ≤ 60 := by
  have : (Str.ofString (toString x)).length ≤ 10 := PyProof.Rows.toString_length_le h0 (by decide) (by omega)
  exact slen (m := 20) (n := 1) (slen (m := 10) (n := 10) (slen (m := 0) (n := 10) (by decide) (by decide) rfl) this rfl) (by decide) rfl
/-- the bank with one more sort of bits -/
theorem BInv.sort_new {w : World} {Z : List (Addr × Obj)} {b : BSt} {ts : List Tm} {sw : List Int} {wd : Int} {bs : List (Int × Value)} {tx tw t : Tok} {o' : Obj} (x : BInv w Z b ts sw) (h1 : 1 ≤ wd) (h2 : wd ≤ 4096)
    (hbd : b.obv.IsDictOf (PySem.intKind PySem.Challenge.rw_nz0152_01.row.prog w) bs) (hl : bs.length ≤ sw.length) (g1 : ∀ x v, valueAt bs x = some v → ∃ (j : Nat) (tk : Tok), v = .int j tk ∧ sw[j]? = some x ∧ 3 ≤ j) (g2 : ∀ (j : Nat) x, sw[j]? = some x → 3 ≤ j → ∃ tk, valueAt bs x = some (.int j tk))
    (hbv : valueAt bs wd = none) (hd' : o'.IsDictOf (PySem.intKind PySem.Challenge.rw_nz0152_01.row.prog w) (bs ++ [(wd, .int b.vn.length t)])) :
    BInv w Z { b with vn := b.vn ++ [.str (bvName wd) tx], cn := b.cn + 1, vw := b.vw ++ [.int wd tw], cw := b.cw + 1, obv := o' } ts (sw ++ [wd]) := by
  obtain ⟨n1, n2, n3⟩ := x.ns
  refine ⟨x.nt, fun i T hT => have q := x.tm i T hT; ⟨q.op, q.al, q.so, q.dk⟩, ⟨(len_s n1).trans (len_s rfl).symm, (len_s n2).trans (len_s rfl).symm, len_ge n3⟩, fun j y hj => ?_,
    ⟨_, hd', Nat.le_trans (Nat.le_of_eq (len_s rfl)) (Nat.le_trans (Nat.succ_le_succ hl) (Nat.le_of_eq (len_s rfl).symm)), fun y v hv => ?_, fun j y hj h3 => ?_⟩, x.nu⟩
  · rcases ap_cut hj with hj | ⟨hi, hy⟩
    · have q := x.so j y hj
      obtain ⟨tk, e1⟩ := q.w
      obtain ⟨nm, tk2, e2, e3⟩ := q.n
      exact ⟨⟨tk, ap_l e1⟩, ⟨nm, tk2, ap_l e2, e3⟩, q.p, q.z⟩
    · subst hi hy
      exact ⟨⟨tw, ap_r n2⟩, ⟨bvName y, tx, ap_r n1, bvName_len (Int.le_trans (by decide) h1) h2, fun _ => rfl⟩, fun _ => ⟨h1, h2⟩, fun q => absurd q (Nat.not_lt_of_le n3)⟩
  · rw [at_snoc hbv] at hv
    split at hv
    · subst y
      cases hv
      exact ⟨b.vn.length, t, rfl, ap_r n1.symm, n1 ▸ n3⟩
    · obtain ⟨j, tk, e1, e2, e3⟩ := g1 y v hv
      exact ⟨j, tk, e1, ap_l e2, e3⟩
  · rw [at_snoc hbv]
    rcases ap_cut hj with hj | ⟨hi, hy⟩
    · obtain ⟨tk, e⟩ := g2 j y hj h3
      rw [if_neg (fun q => by subst q; rw [hbv] at e; cases e)]
      exact ⟨tk, e⟩
    · rw [if_pos hy, hi, ← n1]
      exact ⟨t, rfl⟩
section
variable {xs : List (List EK × Addr × Value)} {k0 k : List EK} {p0 p : Addr × Value}
theorem ak_cut (h : atKey (xs ++ [(k0, p0)]) k = some p) : atKey xs k = some p ∨ (k = k0 ∧ p = p0) := by
  unfold atKey at h ⊢
  rw [List.find?_append] at h
  cases hf : xs.find? (fun x => decide (x.1 = k)) with
  | some y => rw [hf] at h; exact .inl h
  | none =>
    rw [hf, Option.none_or, List.find?_cons] at h
    split at h
    · rename_i hk; exact .inr ⟨(of_decide_eq_true hk).symm, (Option.some.inj h).symm⟩
    · cases h
theorem ak_old (h : atKey xs k = some p) : atKey (xs ++ [(k0, p0)]) k = some p := by
  unfold atKey at h ⊢
  rw [List.find?_append]
  cases hf : xs.find? (fun x => decide (x.1 = k)) with
  | some y => rw [hf] at h; exact h
  | none => rw [hf] at h; cases h
theorem ak_self (h : atKey xs k = none) : atKey (xs ++ [(k, p)]) k = some p := by
  unfold atKey at h ⊢
  rw [List.find?_append, Option.map_eq_none_iff.mp h]; simp
end
section
variable {w : World} {mean : ExcName → Option Value} {mg mb : Str → Option Value} {dp un : Nat} {gd : Option (List Code)} {env : Env} {outer : List Env} {A₀ : Around} {base h₀ : Heap} {L : Addr} {m : Str → Option Value} {s : Shared} {Q E : Value → Shared → Prop}
    {c : BA} {b : BSt} {Z : List (Addr × Obj)} {wd : Int} {tw : Tok} {ts : List Tm} {sw : List Int}
/-- bv_sort of a width in range -/
theorem bv_any (B : Below A₀ base outer h₀) (F : Fr h₀ L s.heap m) (X : (heap w.params).In h₀) (T : Top view (looseW view []) mean mg mb h₀)
    (hf : env.frame = some L) (hk : env.scope.kind = .function) (hdp : dp ≤ 445) (hun : un ≤ 485)
    (N : News h₀ L s.heap (bankLed w.params c b Z)) (I : BInv w Z b ts sw) (O : c.Ord) (ZO : c.Off Z)
    (h1 : 1 ≤ wd) (h2 : wd ≤ 4096) (hl : sw.length ≤ 900)
    (ret : ∀ h' tk' b' sw' (j : Nat) tj, Fr h₀ L h' m → News h₀ L h' (bankLed w.params c b' Z) → BInv w Z b' ts sw' → sw <+: sw' → sw'.length ≤ sw.length + 1 → sw'[j]? = some wd → 3 ≤ j → Q (.int j tj) { s with heap := h', toks := tk' }) :
    wpAny (model PySem.Challenge.rw_nz0152_01.row.prog w) { handled := none, depth := dp, frames := some (env :: outer), guards := gd, units := un } (call (.ref 583) [.ref c.bk, .int wd tw]) Q E s := by
  obtain ⟨bs, hbd, hbl, g1, g2⟩ := I.bv
  obtain ⟨n1, n2, n3⟩ := I.ns
  cases hbv : valueAt bs wd with
  | none =>
    refine bv_new B F X T hf hk (lele hdp rfl) (lele hun rfl) N hbd O ZO h1 h2 hbv (Nat.le_trans (Nat.le_of_eq n1) hl) (Nat.le_trans (Nat.le_of_eq n2) hl) (Nat.le_trans hbl hl) fun h' tk' t tx tw' o' F' N' D' => ?_
    refine ret _ _ _ (sw ++ [wd]) b.vn.length t F' N' (I.sort_new h1 h2 hbd hbl g1 g2 hbv D') (List.prefix_append _ _) (Nat.le_of_eq (len_s rfl)) (ap_r n1.symm) (n1 ▸ n3)
  | some v =>
    obtain ⟨j, tj, rfl, e2, e3⟩ := g1 _ _ hbv
    exact bv_old B F X T hf hk (lele hdp rfl) (lele hun rfl) N hbd O ZO h1 h2 hbv fun h' tk' F' N' => ret _ _ _ sw j tj F' N' I (List.prefix_refl _) (Nat.le_succ _) e2 e3
/-- the bank with one more term -/
theorem BInv.term_new {Z' : List (Addr × Obj)} {op : Str} {al : List Int} {so : Int} {dk : EK} {to' ts' ti : Tok} {at' q : Addr} {dv : Value} {onu' : Obj} {xs : List (List EK × Addr × Value)} (x : BInv w Z b ts sw) (hs : ∀ p ∈ Z, p ∈ Z')
    (hal : EKin Z (.t al) (.ref at')) (hdk : EKin Z dk dv) (hn : xs.length ≤ ts.length) (g1 : ∀ k p, atKey xs k = some p → ∃ (i : Nat) (T : Tm) (tk : Tok), ts[i]? = some T ∧ 1 ≤ i ∧ p.2 = .int i tk ∧ k = T.key) (g2 : ∀ (i : Nat) T, ts[i]? = some T → 1 ≤ i → ∃ q tk, atKey xs T.key = some (q, .int i tk))
    (hnone : atKey xs [.s op, .t al, .i so, dk] = none) (NU : NuIs PySem.Challenge.rw_nz0152_01.row.prog w Z' onu' (xs ++ [([.s op, .t al, .i so, dk], q, .int b.vo.length ti)])) :
    BInv w Z' { b with vo := b.vo ++ [.str op to'], co := b.co + 1, va := b.va ++ [.ref at'], ca := b.ca + 1, vs := b.vs ++ [.int so ts'], cs := b.cs + 1, vd := b.vd ++ [dv], cd := b.cd + 1, onu := onu' } (ts ++ [⟨op, al, so, dk⟩]) sw := by
  obtain ⟨n1, n2, n3, n4, n5⟩ := x.nt
  refine ⟨⟨(len_s n1).trans (len_s rfl).symm, (len_s n2).trans (len_s rfl).symm, (len_s n3).trans (len_s rfl).symm, (len_s n4).trans (len_s rfl).symm, len_ge n5⟩, fun i T hT => ?_, x.ns, fun j y hj => have q := x.so j y hj; ⟨q.w, q.n, q.p, q.z⟩, x.bv, _, NU,
    Nat.le_trans (Nat.le_of_eq (len_s rfl)) (Nat.le_trans (Nat.succ_le_succ hn) (Nat.le_of_eq (len_s rfl).symm)), fun k p hk => ?_, fun i T hT hi => ?_⟩
  · rcases ap_cut hT with hT | ⟨hi, hy⟩
    · obtain ⟨⟨t1, e1⟩, ⟨a, e2, e3⟩, ⟨t2, e4⟩, ⟨v, e5, e6⟩⟩ := (x.tm i T hT).mono hs
      exact ⟨⟨t1, ap_l e1⟩, ⟨a, ap_l e2, e3⟩, ⟨t2, ap_l e4⟩, ⟨v, ap_l e5, e6⟩⟩
    · subst hi hy
      exact ⟨⟨to', ap_r n1⟩, ⟨at', ap_r n2, hal.mono hs⟩, ⟨ts', ap_r n3⟩, ⟨dv, ap_r n4, hdk.mono hs⟩⟩
  · rcases ak_cut hk with hk | ⟨hk, hp⟩
    · obtain ⟨i, T, tk, e1, e2⟩ := g1 k p hk
      exact ⟨i, T, tk, ap_l e1, e2⟩
    · subst hk hp
      exact ⟨ts.length, ⟨op, al, so, dk⟩, ti, ap_r rfl, n5, by rw [n1], rfl⟩
  · rcases ap_cut hT with hT | ⟨hi', hy⟩
    · obtain ⟨q', tk, e⟩ := g2 i T hT hi
      exact ⟨q', tk, ak_old e⟩
    · subst hi' hy
      exact ⟨q, ti, by rw [← n1]; exact ak_self hnone⟩
/-- make: a new term, or the old one -/
theorem make_any (B : Below A₀ base outer h₀) (F : Fr h₀ L s.heap m) (X : (heap w.params).In h₀) (T : Top view (looseW view []) mean mg mb h₀)
    (hf : env.frame = some L) (hk : env.scope.kind = .function) (hdp : dp ≤ 445) (hun : un ≤ 485) {op : Str} {to' ts' : Tok} {at' : Addr} {so : Int} {dv : Value} {al : List Int} {dk : EK}
    (N : News h₀ L s.heap (bankLed w.params c b Z)) (I : BInv w Z b ts sw) (O : c.Ord) (ZO : c.Off Z)
    (hop : PyData.strOk op = true) (hal : EKin Z (.t al) (.ref at')) (hdk : EKin Z dk dv) (hl : ts.length ≤ 900)
    (ret : ∀ h' tk' b' Z' ts2 (r : Nat) tr, Fr h₀ L h' m → News h₀ L h' (bankLed w.params c b' Z') → BInv w Z' b' ts2 sw → (∀ p ∈ Z, p ∈ Z') → c.Off Z' → 1 ≤ r → ts2[r]? = some ⟨op, al, so, dk⟩ →
      (ts2 = ts ∨ (ts2 = ts ++ [⟨op, al, so, dk⟩] ∧ r = ts.length ∧ ∀ i : Nat, 1 ≤ i → ts[i]? ≠ some ⟨op, al, so, dk⟩)) → Q (.int r tr) { s with heap := h', toks := tk' }) :
    wpAny (model PySem.Challenge.rw_nz0152_01.row.prog w) { handled := none, depth := dp, frames := some (env :: outer), guards := gd, units := un } (call (.ref 298) [.ref c.bk, .str op to', .ref at', .int so ts', dv]) Q E s := by
  obtain ⟨xs, NU, hn, g1, g2⟩ := I.nu
  obtain ⟨n1, n2, n3, n4, n5⟩ := I.nt
  cases hk9 : atKey xs [.s op, .t al, .i so, dk] with
  | none =>
    refine make_new B F X T N hf hk (lele hdp rfl) (lele hun rfl) NU O ZO hop hal hdk hk9 (Nat.le_trans (Nat.le_of_eq n1) hl) (Nat.le_trans (Nat.le_of_eq n2) hl) (Nat.le_trans (Nat.le_of_eq n3) hl) (Nat.le_trans (Nat.le_of_eq n4) hl) (Nat.le_trans hn hl) fun h' tk' t q onu' Z' F' N' NU' hs ZO' => ?_
    have I' := I.term_new (to' := to') (ts' := ts') hs hal hdk hn g1 g2 hk9 NU'
    rw [n1]
    refine ret _ _ _ Z' _ ts.length t F' N' I' hs ZO' n5 (ap_r rfl) (.inr ⟨rfl, rfl, fun i hi hT => ?_⟩)
    obtain ⟨q, tk, e⟩ := g2 i _ hT hi
    have : atKey xs [.s op, .t al, .i so, dk] = some (q, .int i tk) := e
    rw [hk9] at this; cases this
  | some p =>
    obtain ⟨i, T, tk, e1, e2, e3, e4⟩ := g1 _ _ hk9
    obtain rfl : (⟨op, al, so, dk⟩ : Tm) = T := Tm.key_inj e4
    obtain ⟨q, v⟩ := p
    obtain rfl : v = .int i tk := e3
    exact make_old B F X T N hf hk (lele hdp rfl) (lele hun rfl) NU O ZO hop hal hdk hk9 (Int.ofNat_le.mpr e2) fun h' tk' Z' F' N' hs ZO' => ret _ _ _ Z' ts i tk F' N' (I.mono hs) hs ZO' e2 e1 (.inl rfl)
end
end
section
open PySem PySem.W PySem.Calls PyProof.Rows
/-- what a call that makes a term leaves -/
noncomputable def Made (ts ts' : List Tm) (sw' : List Int) (r : Nat) (op : Str) (al : List Int) (due : Int) (dk : EK) : Prop := 1 ≤ r ∧ ∃ j : Nat, 3 ≤ j ∧ sw'[j]? = some due ∧ ts'[r]? = some ⟨op, al, j, dk⟩ ∧
  (ts' = ts ∨ (ts' = ts ++ [⟨op, al, j, dk⟩] ∧ r = ts.length ∧ ∀ i : Nat, 1 ≤ i → ts[i]? ≠ some ⟨op, al, j, dk⟩))
theorem raised_sub {base G : Heap} {l : List Env} {e t : Addr} {cls : Value} {vs : List Value} {news news' : List (Addr × Obj)} {h : Heap} (hs : ∀ p ∈ news', p ∈ news) (R : RaisedS base G l e cls t vs news h) : RaisedS base G l e cls t vs news' h := by
  obtain ⟨⟨B, h1, h2, h3, h4⟩, h5⟩ := R
  exact ⟨⟨B, h1, h2, fun q hq => h3 q (hs q hq), h4⟩, h5⟩
theorem bankLed_sub {P : Params} {c : BA} {b : BSt} {Z Z' : List (Addr × Obj)} (hs : ∀ p ∈ Z, p ∈ Z') : ∀ p ∈ bankLed P c b Z, p ∈ bankLed P c b Z' := fun p hp => by
  simp only [bankLed, List.mem_cons] at hp ⊢
  rcases hp with h | h | h | h | h | h | h | h | h | h | h
  all_goals first
    | (simp only [h, true_or, or_true]; done)
    | exact .inr (.inr (.inr (.inr (.inr (.inr (.inr (.inr (.inr (.inr (hs p h))))))))))
section
variable {w : World} {mean : ExcName → Option Value} {mg mb : Str → Option Value} {dp un : Nat} {gd : Option (List Code)} {env : Env} {outer : List Env} {A₀ : Around} {base h₀ : Heap} {L : Addr} {m : Str → Option Value} {s : Shared} {Q E : Value → Shared → Prop}
    {c : BA} {b : BSt} {Z : List (Addr × Obj)} {ts : List Tm} {sw : List Int} {t wx many : Int} {tt tm : Tok}
set_option maxHeartbeats 20000000 in
theorem zext (B : Below A₀ base outer h₀) (F : Fr h₀ L s.heap m) (X : (heap w.params).In h₀) (T : Top view (looseW view []) mean mg mb h₀)
    (hf : env.frame = some L) (hk : env.scope.kind = .function) (hdp : dp ≤ 440) (hun : un ≤ 470)
    (N : News h₀ L s.heap (bankLed w.params c b Z)) (I : BInv w Z b ts sw) (O : c.Ord) (ZO : c.Off Z) (W9 : wof ts sw t wx) (hl : ts.length ≤ 900) (hl2 : sw.length ≤ 900)
    (zero : wx ≠ 0 → many = 0 → ∀ h' tk', Fr h₀ L h' m → News h₀ L h' (bankLed w.params c b Z) → Q (.int t tt) { s with heap := h', toks := tk' })
    (ok : wx ≠ 0 → 0 < many → wx + many ≤ 4096 → ∀ h' tk' b' Z' ts' sw' (r : Nat) tr, Fr h₀ L h' m → News h₀ L h' (bankLed w.params c b' Z') → BInv w Z' b' ts' sw' → (∀ p ∈ Z, p ∈ Z') → c.Off Z' → sw <+: sw' → sw'.length ≤ sw.length + 1 →
      Made ts ts' sw' r (Str.ofString "zero_extend") [t] (wx + many) (.i many) → Q (.int r tr) { s with heap := h', toks := tk' })
    (excS : wx = 0 ∨ many < 0 → ∀ e t vs h' tk' G, Fr h₀ L G m → RaisedS base G (env :: outer) e (.ref 67) t vs (bankLed w.params c b Z) h' → G.UpToSlots h' → E (.ref e) { s with heap := h', toks := tk' })
    (excL : wx ≠ 0 → 0 < many → 4096 < wx + many → ∀ e t vs h' tk' G, Fr h₀ L G m → RaisedS base G (env :: outer) e (.ref 86) t vs (bankLed w.params c b Z) h' → G.UpToSlots h' → E (.ref e) { s with heap := h', toks := tk' }) :
    wpAny (model PySem.Challenge.rw_nz0152_01.row.prog w) { handled := none, depth := dp, frames := some (env :: outer), guards := gd, units := un } (call (.ref 639) [.ref c.bk, .int many tm, .int t tt]) Q E s := by
  have W8 := I.termW W9 hl hl2
  have lo2 := bvl O
  refine wpAny_call ?_
  k_dflt (refine' code_def ?k1 ?k2 ?k3 ?k4 ?k5 ?kA ?kF ?kK ?k6 ?k7 ?k8 ?k9 ?kB ?_ ?c2 ?c3 ?c4 ?c5)
  case kA => exact rfl
  case kF => exact hf
  case kK => exact hk
  case k1 => exact B
  case k2 => exact F
  case k3 => exact X
  case k4 => exact N
  case k5 => exact T
  case k6 => k_is
  case k7 => k_is
  case k8 => ktr_room
  case k9 => exact BindsTo.of_eq rfl
  case c5 => decide
  case kB => exact locs rfl
  case c2 => exact rfl
  case c3 => exact rfl
  case c4 => exact rfl
  intro g' L' h' FG' F' N' B' X' T'
  dsimp only
  dsimp only [bankLed] at N'
  try k_fold
  k_steps
  all_goals (try delta Stop)
  by_cases hw0 : wx = 0
  · subst hw0
    refine want_bad B' F' X' T' rfl rfl (dle hdp rfl) (ule hun rfl) N' O ZO W8 (by decide) fun e5 t5 vs5 h5 tk5 G5 FG5 R5 U5 => ?_
    show wpAny _ _ (leaving _ _) _ _ _
    refine leave_onS B' FG5 R5 U5 fun h6 R6 _ U6 => ?_
    exact excS (.inl rfl) _ _ _ _ _ _ FG' R6 U6
  refine want_ok B' F' X' T' rfl rfl (dle hdp rfl) (ule hun rfl) N' O ZO W8 hw0 fun h5 tk5 F5 N5 => ?_
  dsimp only [bankLed] at N5
  dsimp only
  obtain ⟨sx, tsx, twx, nm, tnm, ht1, ht2, ht3, hnl, ht4, ht5, ht6, ht7⟩ := W8
  k_steps
  all_goals (try delta Stop)
  · rename Fr g' L' _ _ => F9
    rename News g' L' _ _ => N9
    refine exc_raise67 B' F9 X' T' rfl rfl (dle hdp rfl) (ule hun rfl) fun e5 h5 tk5 D5 => ?_
    show wpAny _ _ (leaving _ _) _ _ _
    refine leave_raiseD B' D5 F9 N9 fun h6 t6 R6 U6 => ?_
    exact excS (.inr (by assumption)) _ _ _ _ _ _ FG' R6 U6
  · exact zero hw0 (by assumption) _ _ (by assumption) (by assumption)
  rename Fr g' L' _ _ => F9
  rename News g' L' _ _ => N9
  have ZO1 : c.Off ((Dk, tupO [Value.int t tt]) :: Z) := ZO.above O lDk.2.2.2.2.2.2.2.2.2.1
  have N10 : News g' L' _ (bankLed w.params c b ((Dk, tupO [Value.int t tt]) :: Z)) := News.mid (l := [_, _, _, _, _, _, _, _, _, _]) N9
  by_cases hlim : 4096 < wx + many
  · refine bv_limit B' F9 X' T' rfl rfl (dle hdp rfl) (ule hun rfl) N10 O ZO1 hlim fun e5 t5 vs5 h5 tk5 G5 FG5 R5 U5 => ?_
    show wpAny _ _ (leaving _ _) _ _ _
    refine leave_onS B' FG5 (raised_sub (bankLed_sub fun p hp => .tail _ hp) R5) U5 fun h6 R6 _ U6 => ?_
    exact excL hw0 (by omega) hlim _ _ _ _ _ _ FG' R6 U6
  have I1 : BInv w ((Dk, tupO [Value.int t tt]) :: Z) b ts sw := I.mono fun p hp => .tail _ hp
  have hwx : 0 ≤ wx := by
    obtain ⟨_, T, hT, hs, hw⟩ := W9
    have := I.so _ _ hw
    rcases Nat.lt_or_ge T.so.toNat 3 with q | q
    · have := this.z q; omega
    · have := this.p q; omega
  refine bv_any B' F9 X' T' rfl rfl (dle hdp rfl) (ule hun rfl) N10 I1 O ZO1 (by omega) (by omega) hl2 fun h5 tk5 b5 sw5 j tj F5 N5 I5 hpre hlen hj hj3 => ?_
  dsimp only [bankLed] at N5
  dsimp only
  k_steps
  all_goals (try delta Stop)
  rename Fr g' L' _ _ => F8
  rename News g' L' _ _ => N8
  refine make_any (al := [t]) (dk := .i many) B' F8 X' T' rfl rfl (dle hdp rfl) (ule hun rfl) N8 I5 O ZO1 (by decide +kernel) ⟨Dk, _, rfl, .head _, .cons _ _ .nil⟩ ⟨_, rfl⟩ hl fun h7 tk7 b7 Z7 ts7 r tr F7 N7 I7 hZ7 ZO7 hr hr1 hr2 => ?_
  dsimp only [bankLed] at N7
  dsimp only
  k_steps
  all_goals (try delta Stop)
  exact ok hw0 (by omega) (by omega) _ _ b7 Z7 ts7 sw5 r tr (by assumption) (by assumption) I7 (fun p hp => hZ7 p (.tail _ hp)) ZO7 hpre hlen ⟨hr, j, hj3, hj, hr1, hr2⟩
set_option maxHeartbeats 20000000 in
theorem sext (B : Below A₀ base outer h₀) (F : Fr h₀ L s.heap m) (X : (heap w.params).In h₀) (T : Top view (looseW view []) mean mg mb h₀)
    (hf : env.frame = some L) (hk : env.scope.kind = .function) (hdp : dp ≤ 440) (hun : un ≤ 470)
    (N : News h₀ L s.heap (bankLed w.params c b Z)) (I : BInv w Z b ts sw) (O : c.Ord) (ZO : c.Off Z) (W9 : wof ts sw t wx) (hl : ts.length ≤ 900) (hl2 : sw.length ≤ 900)
    (zero : wx ≠ 0 → many = 0 → ∀ h' tk', Fr h₀ L h' m → News h₀ L h' (bankLed w.params c b Z) → Q (.int t tt) { s with heap := h', toks := tk' })
    (ok : wx ≠ 0 → 0 < many → wx + many ≤ 4096 → ∀ h' tk' b' Z' ts' sw' (r : Nat) tr, Fr h₀ L h' m → News h₀ L h' (bankLed w.params c b' Z') → BInv w Z' b' ts' sw' → (∀ p ∈ Z, p ∈ Z') → c.Off Z' → sw <+: sw' → sw'.length ≤ sw.length + 1 →
      Made ts ts' sw' r (Str.ofString "sign_extend") [t] (wx + many) (.i many) → Q (.int r tr) { s with heap := h', toks := tk' })
    (excS : wx = 0 ∨ many < 0 → ∀ e t vs h' tk' G, Fr h₀ L G m → RaisedS base G (env :: outer) e (.ref 67) t vs (bankLed w.params c b Z) h' → G.UpToSlots h' → E (.ref e) { s with heap := h', toks := tk' })
    (excL : wx ≠ 0 → 0 < many → 4096 < wx + many → ∀ e t vs h' tk' G, Fr h₀ L G m → RaisedS base G (env :: outer) e (.ref 86) t vs (bankLed w.params c b Z) h' → G.UpToSlots h' → E (.ref e) { s with heap := h', toks := tk' }) :
    wpAny (model PySem.Challenge.rw_nz0152_01.row.prog w) { handled := none, depth := dp, frames := some (env :: outer), guards := gd, units := un } (call (.ref 646) [.ref c.bk, .int many tm, .int t tt]) Q E s := by
  have W8 := I.termW W9 hl hl2
  have lo2 := bvl O
  refine wpAny_call ?_
  k_dflt (refine' code_def ?k1 ?k2 ?k3 ?k4 ?k5 ?kA ?kF ?kK ?k6 ?k7 ?k8 ?k9 ?kB ?_ ?c2 ?c3 ?c4 ?c5)
  case kA => exact rfl
  case kF => exact hf
  case kK => exact hk
  case k1 => exact B
  case k2 => exact F
  case k3 => exact X
  case k4 => exact N
  case k5 => exact T
  case k6 => k_is
  case k7 => k_is
  case k8 => ktr_room
  case k9 => exact BindsTo.of_eq rfl
  case c5 => decide
  case kB => exact locs rfl
  case c2 => exact rfl
  case c3 => exact rfl
  case c4 => exact rfl
  intro g' L' h' FG' F' N' B' X' T'
  dsimp only
  dsimp only [bankLed] at N'
  try k_fold
  k_steps
  all_goals (try delta Stop)
  by_cases hw0 : wx = 0
  · subst hw0
    refine want_bad B' F' X' T' rfl rfl (dle hdp rfl) (ule hun rfl) N' O ZO W8 (by decide) fun e5 t5 vs5 h5 tk5 G5 FG5 R5 U5 => ?_
    show wpAny _ _ (leaving _ _) _ _ _
    refine leave_onS B' FG5 R5 U5 fun h6 R6 _ U6 => ?_
    exact excS (.inl rfl) _ _ _ _ _ _ FG' R6 U6
  refine want_ok B' F' X' T' rfl rfl (dle hdp rfl) (ule hun rfl) N' O ZO W8 hw0 fun h5 tk5 F5 N5 => ?_
  dsimp only [bankLed] at N5
  dsimp only
  obtain ⟨sx, tsx, twx, nm, tnm, ht1, ht2, ht3, hnl, ht4, ht5, ht6, ht7⟩ := W8
  k_steps
  all_goals (try delta Stop)
  · rename Fr g' L' _ _ => F9
    rename News g' L' _ _ => N9
    refine exc_raise67 B' F9 X' T' rfl rfl (dle hdp rfl) (ule hun rfl) fun e5 h5 tk5 D5 => ?_
    show wpAny _ _ (leaving _ _) _ _ _
    refine leave_raiseD B' D5 F9 N9 fun h6 t6 R6 U6 => ?_
    exact excS (.inr (by assumption)) _ _ _ _ _ _ FG' R6 U6
  · exact zero hw0 (by assumption) _ _ (by assumption) (by assumption)
  rename Fr g' L' _ _ => F9
  rename News g' L' _ _ => N9
  have ZO1 : c.Off ((Dk, tupO [Value.int t tt]) :: Z) := ZO.above O lDk.2.2.2.2.2.2.2.2.2.1
  have N10 : News g' L' _ (bankLed w.params c b ((Dk, tupO [Value.int t tt]) :: Z)) := News.mid (l := [_, _, _, _, _, _, _, _, _, _]) N9
  by_cases hlim : 4096 < wx + many
  · refine bv_limit B' F9 X' T' rfl rfl (dle hdp rfl) (ule hun rfl) N10 O ZO1 hlim fun e5 t5 vs5 h5 tk5 G5 FG5 R5 U5 => ?_
    show wpAny _ _ (leaving _ _) _ _ _
    refine leave_onS B' FG5 (raised_sub (bankLed_sub fun p hp => .tail _ hp) R5) U5 fun h6 R6 _ U6 => ?_
    exact excL hw0 (by omega) hlim _ _ _ _ _ _ FG' R6 U6
  have I1 : BInv w ((Dk, tupO [Value.int t tt]) :: Z) b ts sw := I.mono fun p hp => .tail _ hp
  have hwx : 0 ≤ wx := by
    obtain ⟨_, T, hT, hs, hw⟩ := W9
    have := I.so _ _ hw
    rcases Nat.lt_or_ge T.so.toNat 3 with q | q
    · have := this.z q; omega
    · have := this.p q; omega
  refine bv_any B' F9 X' T' rfl rfl (dle hdp rfl) (ule hun rfl) N10 I1 O ZO1 (by omega) (by omega) hl2 fun h5 tk5 b5 sw5 j tj F5 N5 I5 hpre hlen hj hj3 => ?_
  dsimp only [bankLed] at N5
  dsimp only
  k_steps
  all_goals (try delta Stop)
  rename Fr g' L' _ _ => F8
  rename News g' L' _ _ => N8
  refine make_any (al := [t]) (dk := .i many) B' F8 X' T' rfl rfl (dle hdp rfl) (ule hun rfl) N8 I5 O ZO1 (by decide +kernel) ⟨Dk, _, rfl, .head _, .cons _ _ .nil⟩ ⟨_, rfl⟩ hl fun h7 tk7 b7 Z7 ts7 r tr F7 N7 I7 hZ7 ZO7 hr hr1 hr2 => ?_
  dsimp only [bankLed] at N7
  dsimp only
  k_steps
  all_goals (try delta Stop)
  exact ok hw0 (by omega) (by omega) _ _ b7 Z7 ts7 sw5 r tr (by assumption) (by assumption) I7 (fun p hp => hZ7 p (.tail _ hp)) ZO7 hpre hlen ⟨hr, j, hj3, hj, hr1, hr2⟩
end
end
section
open PySem PySem.W PySem.Calls PyProof.Rows
theorem wof_nonneg {w : World} {Z : List (Addr × Obj)} {b : BSt} {ts : List Tm} {sw : List Int} {t wx : Int} (I : BInv w Z b ts sw) (W9 : wof ts sw t wx) : 0 ≤ wx ∧ wx ≤ 4096 := by
  obtain ⟨_, T, hT, hs, hw⟩ := W9
  have := I.so _ _ hw
  rcases Nat.lt_or_ge T.so.toNat 3 with q | q
  · have := this.z q; omega
  · have := this.p q; omega
section
variable {w : World} {mean : ExcName → Option Value} {mg mb : Str → Option Value} {dp un : Nat} {gd : Option (List Code)} {env : Env} {outer : List Env} {A₀ : Around} {base h₀ : Heap} {L : Addr} {m : Str → Option Value} {s : Shared} {Q E : Value → Shared → Prop}
    {c : BA} {b : BSt} {Z : List (Addr × Obj)} {ts : List Tm} {sw : List Int} {t wx high low t2 wx2 : Int} {tt th tlo tt2 : Tok}
set_option maxHeartbeats 20000000 in
theorem conc (B : Below A₀ base outer h₀) (F : Fr h₀ L s.heap m) (X : (heap w.params).In h₀) (T : Top view (looseW view []) mean mg mb h₀)
    (hf : env.frame = some L) (hk : env.scope.kind = .function) (hdp : dp ≤ 440) (hun : un ≤ 470)
    (N : News h₀ L s.heap (bankLed w.params c b Z)) (I : BInv w Z b ts sw) (O : c.Ord) (ZO : c.Off Z) (W9 : wof ts sw t wx) (W92 : wof ts sw t2 wx2) (hl : ts.length ≤ 900) (hl2 : sw.length ≤ 900)
    (ok : wx ≠ 0 → wx2 ≠ 0 → wx + wx2 ≤ 4096 → ∀ h' tk' b' Z' ts' sw' (r : Nat) tr, Fr h₀ L h' m → News h₀ L h' (bankLed w.params c b' Z') → BInv w Z' b' ts' sw' → (∀ p ∈ Z, p ∈ Z') → c.Off Z' → sw <+: sw' → sw'.length ≤ sw.length + 1 →
      Made ts ts' sw' r (Str.ofString "concat") [t, t2] (wx + wx2) (.i 0) → Q (.int r tr) { s with heap := h', toks := tk' })
    (excS : wx = 0 ∨ wx2 = 0 → ∀ e t vs h' tk' G, Fr h₀ L G m → RaisedS base G (env :: outer) e (.ref 67) t vs (bankLed w.params c b Z) h' → G.UpToSlots h' → E (.ref e) { s with heap := h', toks := tk' })
    (excL : wx ≠ 0 → wx2 ≠ 0 → 4096 < wx + wx2 → ∀ e t vs h' tk' G, Fr h₀ L G m → RaisedS base G (env :: outer) e (.ref 86) t vs (bankLed w.params c b Z) h' → G.UpToSlots h' → E (.ref e) { s with heap := h', toks := tk' }) :
    wpAny (model PySem.Challenge.rw_nz0152_01.row.prog w) { handled := none, depth := dp, frames := some (env :: outer), guards := gd, units := un } (call (.ref 625) [.ref c.bk, .int t tt, .int t2 tt2]) Q E s := by
  have W8 := I.termW W9 hl hl2
  have W82 := I.termW W92 hl hl2
  have hwx := wof_nonneg I W9
  have hwx2 := wof_nonneg I W92
  have lo2 := bvl O
  refine wpAny_call ?_
  k_dflt (refine' code_def ?k1 ?k2 ?k3 ?k4 ?k5 ?kA ?kF ?kK ?k6 ?k7 ?k8 ?k9 ?kB ?_ ?c2 ?c3 ?c4 ?c5)
  case kA => exact rfl
  case kF => exact hf
  case kK => exact hk
  case k1 => exact B
  case k2 => exact F
  case k3 => exact X
  case k4 => exact N
  case k5 => exact T
  case k6 => k_is
  case k7 => k_is
  case k8 => ktr_room
  case k9 => exact BindsTo.of_eq rfl
  case c5 => decide
  case kB => exact locs rfl
  case c2 => exact rfl
  case c3 => exact rfl
  case c4 => exact rfl
  intro g' L' h' FG' F' N' B' X' T'
  dsimp only
  dsimp only [bankLed] at N'
  try k_fold
  k_steps
  all_goals (try delta Stop)
  by_cases hw0 : wx = 0
  · subst hw0
    refine want_bad B' F' X' T' rfl rfl (dle hdp rfl) (ule hun rfl) N' O ZO W8 (by decide) fun e5 t5 vs5 h5 tk5 G5 FG5 R5 U5 => ?_
    show wpAny _ _ (leaving _ _) _ _ _
    refine leave_onS B' FG5 R5 U5 fun h6 R6 _ U6 => ?_
    exact excS (.inl rfl) _ _ _ _ _ _ FG' R6 U6
  refine want_ok B' F' X' T' rfl rfl (dle hdp rfl) (ule hun rfl) N' O ZO W8 hw0 fun h5 tk5 F5 N5 => ?_
  dsimp only [bankLed] at N5
  dsimp only
  k_steps
  all_goals (try delta Stop)
  rename Fr g' L' _ _ => F9
  rename News g' L' _ _ => N9
  by_cases hw02 : wx2 = 0
  · subst hw02
    refine want_bad B' F9 X' T' rfl rfl (dle hdp rfl) (ule hun rfl) N9 O ZO W82 (by decide) fun e5 t5 vs5 h5 tk5 G5 FG5 R5 U5 => ?_
    show wpAny _ _ (leaving _ _) _ _ _
    refine leave_onS B' FG5 R5 U5 fun h6 R6 _ U6 => ?_
    exact excS (.inr rfl) _ _ _ _ _ _ FG' R6 U6
  refine want_ok B' F9 X' T' rfl rfl (dle hdp rfl) (ule hun rfl) N9 O ZO W82 hw02 fun h8 tk8 F8 N8 => ?_
  dsimp only [bankLed] at N8
  dsimp only
  obtain ⟨sx, tsx, twx, nm, tnm, ht1, ht2, ht3, hnl, ht4, ht5, ht6, ht7⟩ := W8
  obtain ⟨sx2, tsx2, twx2, nm2, tnm2, ht12, ht22, ht32, hnl2, ht42, ht52, ht62, ht72⟩ := W82
  clear F9 N9
  k_steps
  all_goals (try delta Stop)
  rename Fr g' L' _ _ => F9
  rename News g' L' _ _ => N9
  have ZO1 : c.Off ((Dk, tupO [Value.int t tt, Value.int t2 tt2]) :: Z) := ZO.above O lDk.2.2.2.2.2.2.2.2.2.1
  have N10 : News g' L' _ (bankLed w.params c b ((Dk, tupO [Value.int t tt, Value.int t2 tt2]) :: Z)) := News.mid (l := [_, _, _, _, _, _, _, _, _, _]) N9
  by_cases hlim : 4096 < wx + wx2
  · refine bv_limit B' F9 X' T' rfl rfl (dle hdp rfl) (ule hun rfl) N10 O ZO1 hlim fun e5 t5 vs5 h5 tk5 G5 FG5 R5 U5 => ?_
    show wpAny _ _ (leaving _ _) _ _ _
    refine leave_onS B' FG5 (raised_sub (bankLed_sub fun p hp => .tail _ hp) R5) U5 fun h6 R6 _ U6 => ?_
    exact excL hw0 hw02 hlim _ _ _ _ _ _ FG' R6 U6
  have I1 : BInv w ((Dk, tupO [Value.int t tt, Value.int t2 tt2]) :: Z) b ts sw := I.mono fun p hp => .tail _ hp
  refine bv_any B' F9 X' T' rfl rfl (dle hdp rfl) (ule hun rfl) N10 I1 O ZO1 (by omega) (by omega) hl2 fun h5 tk5 b5 sw5 j tj F5 N5 I5 hpre hlen hj hj3 => ?_
  dsimp only [bankLed] at N5
  dsimp only
  k_steps
  all_goals (try delta Stop)
  rename Fr g' L' _ _ => F8
  rename News g' L' _ _ => N8
  refine make_any (al := [t, t2]) (dk := .i 0) B' F8 X' T' rfl rfl (dle hdp rfl) (ule hun rfl) N8 I5 O ZO1 (by decide +kernel) ⟨Dk, _, rfl, .head _, .cons _ _ (.cons _ _ .nil)⟩ ⟨_, rfl⟩ hl fun h7 tk7 b7 Z7 ts7 r tr F7 N7 I7 hZ7 ZO7 hr hr1 hr2 => ?_
  dsimp only [bankLed] at N7
  dsimp only
  k_steps
  all_goals (try delta Stop)
  exact ok hw0 hw02 (by omega) _ _ b7 Z7 ts7 sw5 r tr (by assumption) (by assumption) I7 (fun p hp => hZ7 p (.tail _ hp)) ZO7 hpre hlen ⟨hr, j, hj3, hj, hr1, hr2⟩
set_option maxHeartbeats 20000000 in
theorem extr (B : Below A₀ base outer h₀) (F : Fr h₀ L s.heap m) (X : (heap w.params).In h₀) (T : Top view (looseW view []) mean mg mb h₀)
    (hf : env.frame = some L) (hk : env.scope.kind = .function) (hdp : dp ≤ 440) (hun : un ≤ 470)
    (N : News h₀ L s.heap (bankLed w.params c b Z)) (I : BInv w Z b ts sw) (O : c.Ord) (ZO : c.Off Z) (W9 : wof ts sw t wx) (hl : ts.length ≤ 900) (hl2 : sw.length ≤ 900)
    (ok : wx ≠ 0 → 0 ≤ low → low ≤ high → high < wx → ∀ h' tk' b' Z' ts' sw' (r : Nat) tr, Fr h₀ L h' m → News h₀ L h' (bankLed w.params c b' Z') → BInv w Z' b' ts' sw' → (∀ p ∈ Z, p ∈ Z') → c.Off Z' → sw <+: sw' → sw'.length ≤ sw.length + 1 →
      Made ts ts' sw' r (Str.ofString "extract") [t] (high - low + 1) (.t [high, low]) → Q (.int r tr) { s with heap := h', toks := tk' })
    (excS : wx = 0 ∨ ¬ (0 ≤ low ∧ low ≤ high ∧ high < wx) → ∀ e t vs h' tk' G, Fr h₀ L G m → RaisedS base G (env :: outer) e (.ref 67) t vs (bankLed w.params c b Z) h' → G.UpToSlots h' → E (.ref e) { s with heap := h', toks := tk' }) :
    wpAny (model PySem.Challenge.rw_nz0152_01.row.prog w) { handled := none, depth := dp, frames := some (env :: outer), guards := gd, units := un } (call (.ref 632) [.ref c.bk, .int high th, .int low tlo, .int t tt]) Q E s := by
  have W8 := I.termW W9 hl hl2
  have hwx := wof_nonneg I W9
  have lo2 := bvl O
  refine wpAny_call ?_
  k_dflt (refine' code_def ?k1 ?k2 ?k3 ?k4 ?k5 ?kA ?kF ?kK ?k6 ?k7 ?k8 ?k9 ?kB ?_ ?c2 ?c3 ?c4 ?c5)
  case kA => exact rfl
  case kF => exact hf
  case kK => exact hk
  case k1 => exact B
  case k2 => exact F
  case k3 => exact X
  case k4 => exact N
  case k5 => exact T
  case k6 => k_is
  case k7 => k_is
  case k8 => ktr_room
  case k9 => exact BindsTo.of_eq rfl
  case c5 => decide
  case kB => exact locs rfl
  case c2 => exact rfl
  case c3 => exact rfl
  case c4 => exact rfl
  intro g' L' h' FG' F' N' B' X' T'
  dsimp only
  dsimp only [bankLed] at N'
  try k_fold
  k_steps
  all_goals (try delta Stop)
  by_cases hw0 : wx = 0
  · subst hw0
    refine want_bad B' F' X' T' rfl rfl (dle hdp rfl) (ule hun rfl) N' O ZO W8 (by decide) fun e5 t5 vs5 h5 tk5 G5 FG5 R5 U5 => ?_
    show wpAny _ _ (leaving _ _) _ _ _
    refine leave_onS B' FG5 R5 U5 fun h6 R6 _ U6 => ?_
    exact excS (.inl rfl) _ _ _ _ _ _ FG' R6 U6
  refine want_ok B' F' X' T' rfl rfl (dle hdp rfl) (ule hun rfl) N' O ZO W8 hw0 fun h5 tk5 F5 N5 => ?_
  dsimp only [bankLed] at N5
  dsimp only
  obtain ⟨sx, tsx, twx, nm, tnm, ht1, ht2, ht3, hnl, ht4, ht5, ht6, ht7⟩ := W8
  k_steps
  all_goals (try delta Stop)
  rotate_left
  iterate 3
    rename Fr g' L' _ _ => F9
    rename News g' L' _ _ => N9
    refine exc_raise67 B' F9 X' T' rfl rfl (dle hdp rfl) (ule hun rfl) fun e5 h5 tk5 D5 => ?_
    show wpAny _ _ (leaving _ _) _ _ _
    refine leave_raiseD B' D5 F9 N9 fun h6 t6 R6 U6 => ?_
    exact excS (.inr (by omega)) _ _ _ _ _ _ FG' R6 U6
  rename Fr g' L' _ _ => F9
  rename News g' L' _ _ => N9
  have ZO1 : c.Off ((Dk, tupO [Value.int t tt]) :: Z) := ZO.above O lDk.2.2.2.2.2.2.2.2.2.1
  have N10 : News g' L' _ (bankLed w.params c b ((Dk, tupO [Value.int t tt]) :: Z)) := News.mid (l := [_, _, _, _, _, _, _, _, _, _]) N9
  have I1 : BInv w ((Dk, tupO [Value.int t tt]) :: Z) b ts sw := I.mono fun p hp => .tail _ hp
  refine bv_any B' F9 X' T' rfl rfl (dle hdp rfl) (ule hun rfl) N10 I1 O ZO1 (by omega) (by omega) hl2 fun h5 tk5 b5 sw5 j tj F5 N5 I5 hpre hlen hj hj3 => ?_
  dsimp only [bankLed] at N5
  dsimp only
  k_steps
  all_goals (try delta Stop)
  rename Fr g' L' _ _ => F8
  rename News g' L' _ _ => N8
  have N11 : News g' L' _ (bankLed w.params c b5 ((Dk2, tupO [Value.int high th, Value.int low tlo]) :: (Dk, tupO [Value.int t tt]) :: Z)) := News.mid (l := [_, _, _, _, _, _, _, _, _, _]) N8
  refine make_any (al := [t]) (dk := .t [high, low]) B' F8 X' T' rfl rfl (dle hdp rfl) (ule hun rfl) N11 (I5.mono fun p hp => .tail _ hp) O (ZO1.above O lDk2.2.2.2.2.2.2.2.2.2.1) (by decide +kernel) ⟨_, _, rfl, .tail _ (.head _), .cons _ _ .nil⟩ ⟨_, _, rfl, .head _, .cons _ _ (.cons _ _ .nil)⟩ hl fun h7 tk7 b7 Z7 ts7 r tr F7 N7 I7 hZ7 ZO7 hr hr1 hr2 => ?_
  dsimp only [bankLed] at N7
  dsimp only
  k_steps
  all_goals (try delta Stop)
  exact ok hw0 (by omega) (by omega) (by omega) _ _ b7 Z7 ts7 sw5 r tr (by assumption) (by assumption) I7 (fun p hp => hZ7 p (.tail _ (.tail _ hp))) ZO7 hpre hlen ⟨hr, j, hj3, hj, hr1, hr2⟩
end
end
section
open PySem PySem.W PySem.Calls PyProof.Rows
section
variable {prog : Program} {w : World} {A₀ A : Around} {s s' : Shared} {base h₀ g₀ g g' : Heap} {outer : List Env} {L L' : Addr} {m m' : Str → Option Value} {env : Env} {news news' : List (Addr × Obj)} {K : Frag} {p : Program} {loose : List Str} {mean : ExcName → Option Value} {mg mb : Str → Option Value}
    {R : Result → Shared → Prop} {name qual : Str} {params : Arguments} {body : List Stmt} {scope : Scope} {dV kV doc pm cdv ct oc : Value} {an od : Option Addr} {osl : Array (Option Value)} {f : Addr} {args : Args} {binds : List (Str × Value)}
theorem env_mem {b : Addr} (hf : env.frame = some L) (hm : b ∈ (env :: outer).filterMap (·.frame)) : b = L ∨ b ∈ outer.filterMap (·.frame) := by
  simp only [List.filterMap_cons, hf, List.mem_cons] at hm
  exact hm
/-- the caller's ground after a turn of the callee's -/
theorem turn_back (hf : env.frame = some L) (B : Below A₀ base outer h₀) (XB : K.In base) (TB : Top p loose mean mg mb base) (D : KtsDicts (outer.filterMap (·.frame)) h₀) (T0 : KtsTurn (outer.filterMap (·.frame)) g₀ h₀)
    (FG : Fr h₀ L g m) (T' : KtsTurn ((env :: outer).filterMap (·.frame)) g g') (F' : Fr g' L' s'.heap m') (N' : News g' L' s'.heap news') :
    ∃ h₁, KtsTurn (outer.filterMap (·.frame)) g₀ h₁ ∧ Fr h₁ L s'.heap m ∧ News h₁ L s'.heap news' ∧ Below A₀ base outer h₁ ∧ K.In h₁ ∧ Top p loose mean mg mb h₁ ∧ KtsDicts (outer.filterMap (·.frame)) h₁ := by
  have hL₀ : h₀.get? L = none := PySem.W.kts_self FG
  have up : ∀ b o, h₀.get? b = some o → ∃ sl, s'.heap.get? b = some { o with slots := sl } := fun b o e => by
    obtain ⟨sl, q⟩ := T'.up (FG.keep b o e)
    exact ⟨sl, F'.keep _ _ q⟩
  have same : ∀ b o, h₀.get? b = some o → b ∉ outer.filterMap (·.frame) → s'.heap.get? b = some o := fun b o e hb => by
    refine F'.keep b o (T'.other b o (FG.keep b o e) fun hm => ?_)
    rcases env_mem hf hm with rfl | hm
    · rw [hL₀] at e; cases e
    · exact hb hm
  obtain ⟨T₁, S₁⟩ := kts_turn_at (h := s'.heap) (fs := outer.filterMap (·.frame)) (g := h₀) (fun b hb => let ⟨_, o, e, _⟩ := B.frames.mem hb; ⟨o, e⟩) same (fun b o e _ => up b o e)
  have B₁ : Below A₀ base outer (ktsHeap s'.heap (outer.filterMap (·.frame)) h₀) :=
    ⟨B.stack, fun b o e => T₁.other b o (B.stays b o e) fun hm => (by have := (B.frames.mem hm).1; rw [e] at this; cases this),
      B.frames.of_keeps fun b o e _ => let ⟨sl, q⟩ := T₁.up e; ⟨_, q, rfl⟩⟩
  obtain ⟨oL, es, ep, e1, e2, e3⟩ := FG.ns
  obtain ⟨sl, e4⟩ := T'.up e1
  refine ⟨_, T0.trans T₁, ⟨⟨_, es, ep, F'.keep _ _ e4, e2, e3⟩, S₁, by rw [T₁.size]; exact FG.above⟩, fun q hq => ⟨(N' q hq).1, fun z => ?_, T₁.none_ _ ?_⟩, B₁, XB.keeps B₁.stays, TB.keeps B₁.stays, D.turn T₁⟩
  · have := (N' q hq).2.2; rw [z, e4] at this; cases this
  · cases z : h₀.get? q.1 with
    | none => rfl
    | some o =>
      obtain ⟨sl', y⟩ := T'.up (FG.keep _ _ z)
      have := (N' q hq).2.2
      rw [y] at this; cases this
theorem leave_any (hf : env.frame = some L) (B : Below A₀ base outer h₀) (XB : K.In base) (TB : Top p loose mean mg mb base) (D : KtsDicts (outer.filterMap (·.frame)) h₀) (T0 : KtsTurn (outer.filterMap (·.frame)) g₀ h₀) (FG : Fr h₀ L g m)
    (lv : ∀ v s', LeaveK h₀ L m g R v s' → R (.ok (.ret v)) s') {v : Value} (h : LeaveS ((env :: outer).filterMap (·.frame)) A₀ base outer K p loose mean mg mb g₀ h₀ L m g R v s') : R (.ok (.ret v)) s' := by
  rcases h with h | ⟨g', L', m', news', T', F', N', k⟩
  · exact lv _ _ h
  · obtain ⟨h₁, a1, a2, a3, a4, a5, a6, a7⟩ := turn_back hf B XB TB D T0 FG T' F' N'
    exact k h₁ a1 a2 a3 a4 a5 a6 a7
theorem dicts_in (hf : env.frame = some L) (D : KtsDicts (outer.filterMap (·.frame)) h₀) (st : h₀.StaysIn g) (FG : Fr h₀ L g m) : KtsDicts ((env :: outer).filterMap (·.frame)) g := fun b hb => by
  rcases env_mem hf hb with rfl | hb
  · obtain ⟨o, es, ep, e, d, _⟩ := FG.ns
    exact ⟨o, es, ep, e, d⟩
  · obtain ⟨o, es, n, e, d⟩ := D b hb
    exact ⟨o, es, n, st _ _ e, d⟩
theorem code_defE (B : Below A₀ base outer h₀) (F : Fr h₀ L s.heap m) (X₀ : K.In h₀) (N : News h₀ L s.heap news) (T : Top p loose mean mg mb h₀) (XB : K.In base) (TB : Top p loose mean mg mb base) (D : KtsDicts (outer.filterMap (·.frame)) h₀)
    (T0 : KtsTurn (outer.filterMap (·.frame)) g₀ h₀) (hA : A.frames = some (env :: outer)) (hf : env.frame = some L) (hke : env.scope.kind = .function)
    (ho : K.lookup f = some ⟨oc, od, .func (fnOf name qual params body scope dV kV doc pm an cdv ct), osl⟩) (hcd : codeIn K cdv qual = true) (hroom : A.depth < recursionLimit)
    (hbind : BindsTo s (fnOf name qual params body scope dV kV doc pm an cdv ct) args binds) (hloc : ∀ y ∈ binds, scope.names.lookup y.1 = some .local)
    (h : ∀ g L' h₁, Fr h₀ L g m → Fr g L' h₁ (fun y => binds.reverse.lookup y) → News g L' h₁ news → Below A base (env :: outer) g → K.In g → Top p loose mean mg mb g → KtsDicts ((env :: outer).filterMap (·.frame)) g →
      wpAny (model prog w) (A.deeper (envOf qual scope L' f cdv)) (execs body (envOf qual scope L' f cdv))
        (fun fl s' => LeaveS ((env :: outer).filterMap (·.frame)) A₀ base outer K p loose mean mg mb g₀ h₀ L m g R (match fl with | .ret v => v | _ => .none) s')
        (fun e s' => wpAny (model prog w) (A.deeper (envOf qual scope L' f cdv)) (leaving (envOf qual scope L' f cdv) e) (fun _ s'' => R (.error e) s'') (fun e' s'' => R (.error e') s'') s')
        { s with heap := h₁, toks := s.toks + binds.length })
    (hco : scope.isCoroutine = false) (hgen : scope.isGenerator = false) (hk : scope.kind = .function)
    (hcell : ∀ x ∈ scope.names, x.2 ≠ .cell) : codeAny (model prog w) A (.call (.ref f) args) R s := by
  obtain ⟨FG, BG, st, lv⟩ := groundX (R := R) B F N hA hf hke
  have X := X₀.keeps F.keep
  refine codeAny_call_def (fd := fnOf name qual params body scope dV kV doc pm an cdv ct) (body := body) (binds := binds) hroom (X _ _ ho) rfl (T.nolimit.keeps F.keep) (codeRec_of X hcd) rfl hbind hcell hloc (fun h₁ hns hk₁ => ?_) hco hgen hk
  have Fn : Fr (hideAll s.heap (news.map (·.1))) s.heap.objs.size h₁ _ := ⟨hns, fun b o e => hk₁ b o (of_hideAll _ e), Nat.le_of_eq (hideAll_size _ _)⟩
  have Nn : News (hideAll s.heap (news.map (·.1))) s.heap.objs.size h₁ news := fun q hq => ⟨hk₁ _ _ (N q hq).1, Nat.ne_of_lt (Heap.lt_size (N q hq).1), hideAll_none _ (List.mem_map_of_mem hq)⟩
  exact wpAny_mono (h _ _ h₁ FG Fn Nn BG (X₀.keeps st) (T.keeps st) (dicts_in hf D st FG)) (fun fl s' hl => leave_any hf B XB TB D T0 FG lv hl) fun _ _ y => y
theorem code_defEC (B : Below A₀ base outer h₀) (F : Fr h₀ L s.heap m) (X₀ : K.In h₀) (N : News h₀ L s.heap news) (T : Top p loose mean mg mb h₀) (XB : K.In base) (TB : Top p loose mean mg mb base) (D : KtsDicts (outer.filterMap (·.frame)) h₀)
    (T0 : KtsTurn (outer.filterMap (·.frame)) g₀ h₀) (hA : A.frames = some (env :: outer)) (hf : env.frame = some L) (hke : env.scope.kind = .function)
    (ho : K.lookup f = some ⟨oc, od, .func (fnOf name qual params body scope dV kV doc pm an cdv ct), osl⟩) (hcd : codeIn K cdv qual = true) (hroom : A.depth < recursionLimit)
    (hbind : BindsTo s (fnOf name qual params body scope dV kV doc pm an cdv ct) args binds) (hkind : (binds.all fun y => scope.names.lookup y.1 == some .local || scope.names.lookup y.1 == some .cell) = true)
    (hnd : ((cellsFrom 0 scope.names []).map (·.1)).Nodup)
    (h : ∀ g L' h₁ tk cells, Fr h₀ L g m → Fr g L' h₁ (bindL (envOfC qual scope L' f cdv).kindOf binds fun _ => none) → News g L' h₁ (cells ++ news) →
      CellsAre (bindC (envOfC qual scope L' f cdv).kindOf binds fun _ => none) (cellsFrom (L' + 1) scope.names []) cells → Below A base (env :: outer) g → K.In g → Top p loose mean mg mb g → KtsDicts ((env :: outer).filterMap (·.frame)) g → (∀ p ∈ news, p.1 < L') →
      wpAny (model prog w) (A.deeper (envOfC qual scope L' f cdv)) (execs body (envOfC qual scope L' f cdv))
        (fun fl s' => LeaveS ((env :: outer).filterMap (·.frame)) A₀ base outer K p loose mean mg mb g₀ h₀ L m g R (match fl with | .ret v => v | _ => .none) s')
        (fun e s' => wpAny (model prog w) (A.deeper (envOfC qual scope L' f cdv)) (leaving (envOfC qual scope L' f cdv) e) (fun _ s'' => R (.error e) s'') (fun e' s'' => R (.error e') s'') s')
        { s with heap := h₁, toks := tk })
    (hco : scope.isCoroutine = false) (hgen : scope.isGenerator = false) (hk : scope.kind = .function) : codeAny (model prog w) A (.call (.ref f) args) R s := by
  obtain ⟨FG, BG, st, lv⟩ := groundX (R := R) B F N hA hf hke
  have X := X₀.keeps F.keep
  refine codeAny_call_function (fd := fnOf name qual params body scope dV kV doc pm an cdv ct) hroom (X _ _ ho) rfl hco hgen rfl (codeRec_of X hcd) (hbind _ _ _ _ (wpAny_newFunctionEnv_cells hk (kindsX hkind _) fun env' he s' x => ?_))
  subst he
  refine ⟨(T.nolimit.keeps F.keep).keeps x.toInCall.keep, codeAny_func ?_⟩
  obtain ⟨h₁, tk, rfl, _⟩ := x.done
  have hk₁ := x.toInCall.keep
  obtain ⟨cells, NC, Y⟩ := Cl.news (h₀ := s.heap) (Nat.le_refl _) fun n c hm => ⟨x.cell n c (lookup_of_mem_nodup (cellsFrom_names scope.names 0 (s.heap.objs.size + 1) [] [] rfl ▸ hnd) hm), x.above n c hm⟩
  have Fn : Fr (hideAll s.heap (news.map (·.1))) s.heap.objs.size h₁ _ := ⟨x.toInCall.ns, fun b o e => hk₁ b o (of_hideAll _ e), Nat.le_of_eq (hideAll_size _ _)⟩
  have Nn : News (hideAll s.heap (news.map (·.1))) s.heap.objs.size h₁ (cells ++ news) := fun q hq => by
    rcases List.mem_append.mp hq with hq | hq
    · refine ⟨(NC q hq).1, (NC q hq).2.1, ?_⟩
      cases z : (hideAll s.heap (news.map (·.1))).get? q.1 with
      | none => rfl
      | some o => have := of_hideAll _ z; rw [(NC q hq).2.2] at this; cases this
    · exact ⟨hk₁ _ _ (N q hq).1, Nat.ne_of_lt (Heap.lt_size (N q hq).1), hideAll_none _ (List.mem_map_of_mem hq)⟩
  exact wpAny_mono (h _ _ h₁ tk cells FG Fn Nn Y BG (X₀.keeps st) (T.keeps st) (dicts_in hf D st FG) fun q hq => Heap.lt_size (N q hq).1) (fun fl s' hl => leave_any hf B XB TB D T0 FG lv hl) fun _ _ y => y
end
end
section
open PySem PySem.W PySem.Calls PyProof.Rows
noncomputable abbrev worldKvs (c : BA) (pl kn : Addr) (bf : Int) (hv : Value) (tbf : Tok) : List (Str × Value) := [("bank", .ref c.bk), ("pool", .ref pl), ("known", .ref kn), ("before", .int bf tbf), ("heard", hv)]
section
variable {w : World} {mean : ExcName → Option Value} {mg mb : Str → Option Value} {dp un : Nat} {gd : Option (List Code)} {env : Env} {outer : List Env} {A₀ : Around} {base h₀ g₀ : Heap} {L : Addr} {m : Str → Option Value} {s : Shared} {Q E : Value → Shared → Prop}
    {c : BA} {b : BSt} {Z : List (Addr × Obj)} {ts : List Tm} {sw : List Int} {t wx high low t2 wx2 bf : Int} {tt th tlo tt2 tbf tw tw2 top : Tok} {wd pl kn pa e0 e1 dt : Addr} {ow : Obj} {n n0 n1 : Nat} {hv x2 x3 y2 y3 : Value}
set_option maxHeartbeats 20000000 in
theorem asked_extr (B : Below A₀ base outer h₀) (F : Fr h₀ L s.heap m) (X : (heap w.params).In h₀) (T : Top view (looseW view []) mean mg mb h₀)
    (XB : (heap w.params).In base) (TB : Top view (looseW view []) mean mg mb base) (D : KtsDicts (outer.filterMap (·.frame)) h₀) (T0 : KtsTurn (outer.filterMap (·.frame)) g₀ h₀)
    (hf : env.frame = some L) (hke : env.scope.kind = .function) (hdp : dp ≤ 430) (hun : un ≤ 440)
    (hwd : ow.IsDictOf (PySem.strKind PySem.Challenge.rw_nz0152_01.row.prog w) (worldKvs c pl kn bf hv tbf))
    (N : News h₀ L s.heap (bankLed w.params c b ((wd, ow) :: (pa, LO [.ref e0] n) :: (e0, LO [.int t tt, .int wx tw, x2, x3] n0) :: (dt, tupO [.int high th, .int low tlo]) :: Z))) (I : BInv w Z b ts sw) (O : c.Ord)
    (ZO : c.Off ((wd, ow) :: (pa, LO [.ref e0] n) :: (e0, LO [.int t tt, .int wx tw, x2, x3] n0) :: (dt, tupO [.int high th, .int low tlo]) :: Z)) (W9 : wof ts sw t wx) (hl : ts.length ≤ 900) (hl2 : sw.length ≤ 900)
    (ok : wx ≠ 0 → 0 ≤ low → low ≤ high → high < wx → ∀ h' tk' h₁ b' Z' ts' sw' (r : Nat) tr, KtsTurn (outer.filterMap (·.frame)) g₀ h₁ → Fr h₁ L h' m → Below A₀ base outer h₁ → (heap w.params).In h₁ → Top view (looseW view []) mean mg mb h₁ → KtsDicts (outer.filterMap (·.frame)) h₁ → News h₁ L h' (bankLed w.params c b' Z') → BInv w Z' b' ts' sw' → (∀ p ∈ ((wd, ow) :: (pa, LO [.ref e0] n) :: (e0, LO [.int t tt, .int wx tw, x2, x3] n0) :: (dt, tupO [.int high th, .int low tlo]) :: Z), p ∈ Z') → c.Off Z' → sw <+: sw' → sw'.length ≤ sw.length + 1 →
      Made ts ts' sw' r (Str.ofString "extract") [t] (high - low + 1) (.t [high, low]) → Q (.int r tr) { s with heap := h', toks := tk' })
    (bad : wx = 0 ∨ ¬ (0 ≤ low ∧ low ≤ high ∧ high < wx) → ∀ h' tk' h₁ tx, KtsTurn (outer.filterMap (·.frame)) g₀ h₁ → Fr h₁ L h' m → Below A₀ base outer h₁ → (heap w.params).In h₁ → Top view (looseW view []) mean mg mb h₁ → KtsDicts (outer.filterMap (·.frame)) h₁ → News h₁ L h' (bankLed w.params c b ((wd, ow) :: (pa, LO [.ref e0] n) :: (e0, LO [.int t tt, .int wx tw, x2, x3] n0) :: (dt, tupO [.int high th, .int low tlo]) :: Z)) → Q (.str (Str.ofString "sort") tx) { s with heap := h', toks := tk' }) :
    wpAny (model PySem.Challenge.rw_nz0152_01.row.prog w) { handled := none, depth := dp, frames := some (env :: outer), guards := gd, units := un } (call (.ref 731) [.ref wd, .str (Str.ofString "extract") top, .ref pa, .ref dt]) Q E s := by
  have W8 := I.termW W9 hl hl2
  refine wpAny_call ?_
  k_dflt (refine' code_defE ?k1 ?k2 ?k3 ?k4 ?k5 ?XB ?TB ?D ?T0 ?kA ?kF ?kK ?k6 ?k7 ?k8 ?k9 ?kB ?_ ?c2 ?c3 ?c4 ?c5)
  case kA => exact rfl
  case kF => exact hf
  case kK => exact hke
  case k1 => exact B
  case k2 => exact F
  case k3 => exact X
  case k4 => exact N
  case k5 => exact T
  case XB => exact XB
  case TB => exact TB
  case D => exact D
  case T0 => exact T0
  case k6 => k_is
  case k7 => k_is
  case k8 => ktr_room
  case k9 => exact BindsTo.of_eq rfl
  case c5 => decide
  case kB => exact locs rfl
  case c2 => exact rfl
  case c3 => exact rfl
  case c4 => exact rfl
  intro g' L' h' FG' F' N' B' X' T' D'
  dsimp only
  dsimp only [bankLed] at N'
  try k_fold
  k_steps
  all_goals (try delta Stop)
  rename Fr g' L' _ _ => F9
  rename News g' L' _ _ => N9
  refine extr B' F9 X' T' rfl rfl (dle hdp rfl) (ule hun rfl) N9 (I.mono fun p hp => .tail _ (.tail _ (.tail _ (.tail _ hp)))) O ZO W9 hl hl2 ?ok ?exc
  case ok =>
    intro a1 a2 a3 a4 h7 tk7 b7 Z7 ts7 sw7 r tr F7 N7 I7 s7 ZO7 p7 l7 M7
    refine leaveS_l F7 N7 fun kF kN => ?_
    exact ok a1 a2 a3 a4 _ _ h₀ b7 Z7 ts7 sw7 r tr T0 kF B X T D kN I7 s7 ZO7 p7 l7 M7
  case exc =>
    intro hc e5 t5 vs5 h5 tk5 G5 FG5 R5 U5
    refine caught_SO0 R5 FG5 B' U5 XB TB D' KtsTurn.refl ?ex ?q fun h6 g6 n6 T6 F6 N6n G6 N6 B6 X6 P6 D6 => ?_
    case ex => k_is
    case q => kts_isx
    clear N6n G6 F9 N9 FG5 R5 U5
    dsimp only [bankLed] at N6
    k_steps
    all_goals (try delta Stop)
    rename Fr _ L _ m => kF
    exact bad hc _ _ _ _ (by assumption) kF (by assumption) (by assumption) (by assumption) (by assumption) (by assumption)
set_option maxHeartbeats 20000000 in
theorem asked_conc (B : Below A₀ base outer h₀) (F : Fr h₀ L s.heap m) (X : (heap w.params).In h₀) (T : Top view (looseW view []) mean mg mb h₀)
    (XB : (heap w.params).In base) (TB : Top view (looseW view []) mean mg mb base) (D : KtsDicts (outer.filterMap (·.frame)) h₀) (T0 : KtsTurn (outer.filterMap (·.frame)) g₀ h₀)
    (hf : env.frame = some L) (hke : env.scope.kind = .function) (hdp : dp ≤ 430) (hun : un ≤ 440)
    (hwd : ow.IsDictOf (PySem.strKind PySem.Challenge.rw_nz0152_01.row.prog w) (worldKvs c pl kn bf hv tbf))
    (N : News h₀ L s.heap (bankLed w.params c b ((wd, ow) :: (pa, LO [.ref e0, .ref e1] n) :: (e0, LO [.int t tt, .int wx tw, x2, x3] n0) :: (e1, LO [.int t2 tt2, .int wx2 tw2, y2, y3] n1) :: Z))) (I : BInv w Z b ts sw) (O : c.Ord)
    (ZO : c.Off ((wd, ow) :: (pa, LO [.ref e0, .ref e1] n) :: (e0, LO [.int t tt, .int wx tw, x2, x3] n0) :: (e1, LO [.int t2 tt2, .int wx2 tw2, y2, y3] n1) :: Z)) (W9 : wof ts sw t wx) (W92 : wof ts sw t2 wx2) (hl : ts.length ≤ 900) (hl2 : sw.length ≤ 900)
    (ok : wx ≠ 0 → wx2 ≠ 0 → wx + wx2 ≤ 4096 → ∀ h' tk' h₁ b' Z' ts' sw' (r : Nat) tr, KtsTurn (outer.filterMap (·.frame)) g₀ h₁ → Fr h₁ L h' m → Below A₀ base outer h₁ → (heap w.params).In h₁ → Top view (looseW view []) mean mg mb h₁ → KtsDicts (outer.filterMap (·.frame)) h₁ → News h₁ L h' (bankLed w.params c b' Z') → BInv w Z' b' ts' sw' → (∀ p ∈ ((wd, ow) :: (pa, LO [.ref e0, .ref e1] n) :: (e0, LO [.int t tt, .int wx tw, x2, x3] n0) :: (e1, LO [.int t2 tt2, .int wx2 tw2, y2, y3] n1) :: Z), p ∈ Z') → c.Off Z' → sw <+: sw' → sw'.length ≤ sw.length + 1 →
      Made ts ts' sw' r (Str.ofString "concat") [t, t2] (wx + wx2) (.i 0) → Q (.int r tr) { s with heap := h', toks := tk' })
    (bad : wx = 0 ∨ wx2 = 0 → ∀ h' tk' h₁ tx, KtsTurn (outer.filterMap (·.frame)) g₀ h₁ → Fr h₁ L h' m → Below A₀ base outer h₁ → (heap w.params).In h₁ → Top view (looseW view []) mean mg mb h₁ → KtsDicts (outer.filterMap (·.frame)) h₁ → News h₁ L h' (bankLed w.params c b ((wd, ow) :: (pa, LO [.ref e0, .ref e1] n) :: (e0, LO [.int t tt, .int wx tw, x2, x3] n0) :: (e1, LO [.int t2 tt2, .int wx2 tw2, y2, y3] n1) :: Z)) → Q (.str (Str.ofString "sort") tx) { s with heap := h', toks := tk' })
    (lim : wx ≠ 0 → wx2 ≠ 0 → 4096 < wx + wx2 → ∀ h' tk' h₁ tx, KtsTurn (outer.filterMap (·.frame)) g₀ h₁ → Fr h₁ L h' m → Below A₀ base outer h₁ → (heap w.params).In h₁ → Top view (looseW view []) mean mg mb h₁ → KtsDicts (outer.filterMap (·.frame)) h₁ → News h₁ L h' (bankLed w.params c b ((wd, ow) :: (pa, LO [.ref e0, .ref e1] n) :: (e0, LO [.int t tt, .int wx tw, x2, x3] n0) :: (e1, LO [.int t2 tt2, .int wx2 tw2, y2, y3] n1) :: Z)) → Q (.str (Str.ofString "limit") tx) { s with heap := h', toks := tk' }) :
    wpAny (model PySem.Challenge.rw_nz0152_01.row.prog w) { handled := none, depth := dp, frames := some (env :: outer), guards := gd, units := un } (call (.ref 731) [.ref wd, .str (Str.ofString "concat") top, .ref pa, .int 0 tlo]) Q E s := by
  have W8 := I.termW W9 hl hl2
  refine wpAny_call ?_
  k_dflt (refine' code_defE ?k1 ?k2 ?k3 ?k4 ?k5 ?XB ?TB ?D ?T0 ?kA ?kF ?kK ?k6 ?k7 ?k8 ?k9 ?kB ?_ ?c2 ?c3 ?c4 ?c5)
  case kA => exact rfl
  case kF => exact hf
  case kK => exact hke
  case k1 => exact B
  case k2 => exact F
  case k3 => exact X
  case k4 => exact N
  case k5 => exact T
  case XB => exact XB
  case TB => exact TB
  case D => exact D
  case T0 => exact T0
  case k6 => k_is
  case k7 => k_is
  case k8 => ktr_room
  case k9 => exact BindsTo.of_eq rfl
  case c5 => decide
  case kB => exact locs rfl
  case c2 => exact rfl
  case c3 => exact rfl
  case c4 => exact rfl
  intro g' L' h' FG' F' N' B' X' T' D'
  dsimp only
  dsimp only [bankLed] at N'
  try k_fold
  k_steps
  all_goals (try delta Stop)
  rename Fr g' L' _ _ => F9
  rename News g' L' _ _ => N9
  refine conc B' F9 X' T' rfl rfl (dle hdp rfl) (ule hun rfl) N9 (I.mono fun p hp => .tail _ (.tail _ (.tail _ (.tail _ hp)))) O ZO W9 W92 hl hl2 ?ok ?exc ?lim
  case ok =>
    intro a1 a2 a3 h7 tk7 b7 Z7 ts7 sw7 r tr F7 N7 I7 s7 ZO7 p7 l7 M7
    refine leaveS_l F7 N7 fun kF kN => ?_
    exact ok a1 a2 a3 _ _ h₀ b7 Z7 ts7 sw7 r tr T0 kF B X T D kN I7 s7 ZO7 p7 l7 M7
  case exc =>
    intro hc e5 t5 vs5 h5 tk5 G5 FG5 R5 U5
    refine caught_SO0 R5 FG5 B' U5 XB TB D' KtsTurn.refl ?ex ?q fun h6 g6 n6 T6 F6 N6n G6 N6 B6 X6 P6 D6 => ?_
    case ex => k_is
    case q => kts_isx
    clear N6n G6 F9 N9 FG5 R5 U5
    dsimp only [bankLed] at N6
    k_steps
    all_goals (try delta Stop)
    rename Fr _ L _ m => kF
    exact bad hc _ _ _ _ (by assumption) kF (by assumption) (by assumption) (by assumption) (by assumption) (by assumption)
  case lim =>
    intro hc1 hc2 hc3 e5 t5 vs5 h5 tk5 G5 FG5 R5 U5
    refine caught_second (C1 := 67) R5 FG5 B' U5 XB TB D' KtsTurn.refl ?ex1 ?q1 ?sub1 ?ex ?q fun h6 g6 T6 F6 N6 B6 X6 P6 D6 => ?_
    case ex1 => k_is
    case q1 => kts_isx
    case sub1 => kernel_rfl
    case ex => k_is
    case q => kts_isx
    clear F9 N9 FG5 R5 U5
    dsimp only [bankLed] at N6
    k_steps
    all_goals (try delta Stop)
    rename Fr _ L _ m => kF
    exact lim hc1 hc2 hc3 _ _ _ _ (by assumption) kF (by assumption) (by assumption) (by assumption) (by assumption) (by assumption)
set_option maxHeartbeats 20000000 in
theorem asked_z (B : Below A₀ base outer h₀) (F : Fr h₀ L s.heap m) (X : (heap w.params).In h₀) (T : Top view (looseW view []) mean mg mb h₀)
    (XB : (heap w.params).In base) (TB : Top view (looseW view []) mean mg mb base) (D : KtsDicts (outer.filterMap (·.frame)) h₀) (T0 : KtsTurn (outer.filterMap (·.frame)) g₀ h₀)
    (hf : env.frame = some L) (hke : env.scope.kind = .function) (hdp : dp ≤ 430) (hun : un ≤ 440)
    (hwd : ow.IsDictOf (PySem.strKind PySem.Challenge.rw_nz0152_01.row.prog w) (worldKvs c pl kn bf hv tbf))
    (N : News h₀ L s.heap (bankLed w.params c b ((wd, ow) :: (pa, LO [.ref e0] n) :: (e0, LO [.int t tt, .int wx tw, x2, x3] n0) :: Z))) (I : BInv w Z b ts sw) (O : c.Ord)
    (ZO : c.Off ((wd, ow) :: (pa, LO [.ref e0] n) :: (e0, LO [.int t tt, .int wx tw, x2, x3] n0) :: Z)) (W9 : wof ts sw t wx) (hl : ts.length ≤ 900) (hl2 : sw.length ≤ 900)
    (zero : wx ≠ 0 → low = 0 → ∀ h' tk' h₁, KtsTurn (outer.filterMap (·.frame)) g₀ h₁ → Fr h₁ L h' m → Below A₀ base outer h₁ → (heap w.params).In h₁ → Top view (looseW view []) mean mg mb h₁ → KtsDicts (outer.filterMap (·.frame)) h₁ → News h₁ L h' (bankLed w.params c b ((wd, ow) :: (pa, LO [.ref e0] n) :: (e0, LO [.int t tt, .int wx tw, x2, x3] n0) :: Z)) → Q (.int t tt) { s with heap := h', toks := tk' })
    (ok : wx ≠ 0 → 0 < low → wx + low ≤ 4096 → ∀ h' tk' h₁ b' Z' ts' sw' (r : Nat) tr, KtsTurn (outer.filterMap (·.frame)) g₀ h₁ → Fr h₁ L h' m → Below A₀ base outer h₁ → (heap w.params).In h₁ → Top view (looseW view []) mean mg mb h₁ → KtsDicts (outer.filterMap (·.frame)) h₁ → News h₁ L h' (bankLed w.params c b' Z') → BInv w Z' b' ts' sw' → (∀ p ∈ ((wd, ow) :: (pa, LO [.ref e0] n) :: (e0, LO [.int t tt, .int wx tw, x2, x3] n0) :: Z), p ∈ Z') → c.Off Z' → sw <+: sw' → sw'.length ≤ sw.length + 1 →
      Made ts ts' sw' r (Str.ofString "zero_extend") [t] (wx + low) (.i low) → Q (.int r tr) { s with heap := h', toks := tk' })
    (bad : wx = 0 ∨ low < 0 → ∀ h' tk' h₁ tx, KtsTurn (outer.filterMap (·.frame)) g₀ h₁ → Fr h₁ L h' m → Below A₀ base outer h₁ → (heap w.params).In h₁ → Top view (looseW view []) mean mg mb h₁ → KtsDicts (outer.filterMap (·.frame)) h₁ → News h₁ L h' (bankLed w.params c b ((wd, ow) :: (pa, LO [.ref e0] n) :: (e0, LO [.int t tt, .int wx tw, x2, x3] n0) :: Z)) → Q (.str (Str.ofString "sort") tx) { s with heap := h', toks := tk' })
    (lim : wx ≠ 0 → 0 < low → 4096 < wx + low → ∀ h' tk' h₁ tx, KtsTurn (outer.filterMap (·.frame)) g₀ h₁ → Fr h₁ L h' m → Below A₀ base outer h₁ → (heap w.params).In h₁ → Top view (looseW view []) mean mg mb h₁ → KtsDicts (outer.filterMap (·.frame)) h₁ → News h₁ L h' (bankLed w.params c b ((wd, ow) :: (pa, LO [.ref e0] n) :: (e0, LO [.int t tt, .int wx tw, x2, x3] n0) :: Z)) → Q (.str (Str.ofString "limit") tx) { s with heap := h', toks := tk' }) :
    wpAny (model PySem.Challenge.rw_nz0152_01.row.prog w) { handled := none, depth := dp, frames := some (env :: outer), guards := gd, units := un } (call (.ref 731) [.ref wd, .str (Str.ofString "zero_extend") top, .ref pa, .int low tlo]) Q E s := by
  have W8 := I.termW W9 hl hl2
  refine wpAny_call ?_
  k_dflt (refine' code_defE ?k1 ?k2 ?k3 ?k4 ?k5 ?XB ?TB ?D ?T0 ?kA ?kF ?kK ?k6 ?k7 ?k8 ?k9 ?kB ?_ ?c2 ?c3 ?c4 ?c5)
  case kA => exact rfl
  case kF => exact hf
  case kK => exact hke
  case k1 => exact B
  case k2 => exact F
  case k3 => exact X
  case k4 => exact N
  case k5 => exact T
  case XB => exact XB
  case TB => exact TB
  case D => exact D
  case T0 => exact T0
  case k6 => k_is
  case k7 => k_is
  case k8 => ktr_room
  case k9 => exact BindsTo.of_eq rfl
  case c5 => decide
  case kB => exact locs rfl
  case c2 => exact rfl
  case c3 => exact rfl
  case c4 => exact rfl
  intro g' L' h' FG' F' N' B' X' T' D'
  dsimp only
  dsimp only [bankLed] at N'
  try k_fold
  k_steps
  all_goals (try delta Stop)
  rename Fr g' L' _ _ => F9
  rename News g' L' _ _ => N9
  refine zext B' F9 X' T' rfl rfl (dle hdp rfl) (ule hun rfl) N9 (I.mono fun p hp => .tail _ (.tail _ (.tail _ hp))) O ZO W9 hl hl2 ?zero ?ok ?exc ?lim
  case zero =>
    intro a1 a2 h7 tk7 F7 N7
    refine leaveS_l F7 N7 fun kF kN => ?_
    exact zero a1 a2 _ _ h₀ T0 kF B X T D kN
  case ok =>
    intro a1 a2 a3 h7 tk7 b7 Z7 ts7 sw7 r tr F7 N7 I7 s7 ZO7 p7 l7 M7
    refine leaveS_l F7 N7 fun kF kN => ?_
    exact ok a1 a2 a3 _ _ h₀ b7 Z7 ts7 sw7 r tr T0 kF B X T D kN I7 s7 ZO7 p7 l7 M7
  case exc =>
    intro hc e5 t5 vs5 h5 tk5 G5 FG5 R5 U5
    refine caught_SO0 R5 FG5 B' U5 XB TB D' KtsTurn.refl ?ex ?q fun h6 g6 n6 T6 F6 N6n G6 N6 B6 X6 P6 D6 => ?_
    case ex => k_is
    case q => kts_isx
    clear N6n G6 F9 N9 FG5 R5 U5
    dsimp only [bankLed] at N6
    k_steps
    all_goals (try delta Stop)
    rename Fr _ L _ m => kF
    exact bad hc _ _ _ _ (by assumption) kF (by assumption) (by assumption) (by assumption) (by assumption) (by assumption)
  case lim =>
    intro hc1 hc2 hc3 e5 t5 vs5 h5 tk5 G5 FG5 R5 U5
    refine caught_second (C1 := 67) R5 FG5 B' U5 XB TB D' KtsTurn.refl ?ex1 ?q1 ?sub1 ?ex ?q fun h6 g6 T6 F6 N6 B6 X6 P6 D6 => ?_
    case ex1 => k_is
    case q1 => kts_isx
    case sub1 => kernel_rfl
    case ex => k_is
    case q => kts_isx
    clear F9 N9 FG5 R5 U5
    dsimp only [bankLed] at N6
    k_steps
    all_goals (try delta Stop)
    rename Fr _ L _ m => kF
    exact lim hc1 hc2 hc3 _ _ _ _ (by assumption) kF (by assumption) (by assumption) (by assumption) (by assumption) (by assumption)
set_option maxHeartbeats 20000000 in
theorem asked_s (B : Below A₀ base outer h₀) (F : Fr h₀ L s.heap m) (X : (heap w.params).In h₀) (T : Top view (looseW view []) mean mg mb h₀)
    (XB : (heap w.params).In base) (TB : Top view (looseW view []) mean mg mb base) (D : KtsDicts (outer.filterMap (·.frame)) h₀) (T0 : KtsTurn (outer.filterMap (·.frame)) g₀ h₀)
    (hf : env.frame = some L) (hke : env.scope.kind = .function) (hdp : dp ≤ 430) (hun : un ≤ 440)
    (hwd : ow.IsDictOf (PySem.strKind PySem.Challenge.rw_nz0152_01.row.prog w) (worldKvs c pl kn bf hv tbf))
    (N : News h₀ L s.heap (bankLed w.params c b ((wd, ow) :: (pa, LO [.ref e0] n) :: (e0, LO [.int t tt, .int wx tw, x2, x3] n0) :: Z))) (I : BInv w Z b ts sw) (O : c.Ord)
    (ZO : c.Off ((wd, ow) :: (pa, LO [.ref e0] n) :: (e0, LO [.int t tt, .int wx tw, x2, x3] n0) :: Z)) (W9 : wof ts sw t wx) (hl : ts.length ≤ 900) (hl2 : sw.length ≤ 900)
    (zero : wx ≠ 0 → low = 0 → ∀ h' tk' h₁, KtsTurn (outer.filterMap (·.frame)) g₀ h₁ → Fr h₁ L h' m → Below A₀ base outer h₁ → (heap w.params).In h₁ → Top view (looseW view []) mean mg mb h₁ → KtsDicts (outer.filterMap (·.frame)) h₁ → News h₁ L h' (bankLed w.params c b ((wd, ow) :: (pa, LO [.ref e0] n) :: (e0, LO [.int t tt, .int wx tw, x2, x3] n0) :: Z)) → Q (.int t tt) { s with heap := h', toks := tk' })
    (ok : wx ≠ 0 → 0 < low → wx + low ≤ 4096 → ∀ h' tk' h₁ b' Z' ts' sw' (r : Nat) tr, KtsTurn (outer.filterMap (·.frame)) g₀ h₁ → Fr h₁ L h' m → Below A₀ base outer h₁ → (heap w.params).In h₁ → Top view (looseW view []) mean mg mb h₁ → KtsDicts (outer.filterMap (·.frame)) h₁ → News h₁ L h' (bankLed w.params c b' Z') → BInv w Z' b' ts' sw' → (∀ p ∈ ((wd, ow) :: (pa, LO [.ref e0] n) :: (e0, LO [.int t tt, .int wx tw, x2, x3] n0) :: Z), p ∈ Z') → c.Off Z' → sw <+: sw' → sw'.length ≤ sw.length + 1 →
      Made ts ts' sw' r (Str.ofString "sign_extend") [t] (wx + low) (.i low) → Q (.int r tr) { s with heap := h', toks := tk' })
    (bad : wx = 0 ∨ low < 0 → ∀ h' tk' h₁ tx, KtsTurn (outer.filterMap (·.frame)) g₀ h₁ → Fr h₁ L h' m → Below A₀ base outer h₁ → (heap w.params).In h₁ → Top view (looseW view []) mean mg mb h₁ → KtsDicts (outer.filterMap (·.frame)) h₁ → News h₁ L h' (bankLed w.params c b ((wd, ow) :: (pa, LO [.ref e0] n) :: (e0, LO [.int t tt, .int wx tw, x2, x3] n0) :: Z)) → Q (.str (Str.ofString "sort") tx) { s with heap := h', toks := tk' })
    (lim : wx ≠ 0 → 0 < low → 4096 < wx + low → ∀ h' tk' h₁ tx, KtsTurn (outer.filterMap (·.frame)) g₀ h₁ → Fr h₁ L h' m → Below A₀ base outer h₁ → (heap w.params).In h₁ → Top view (looseW view []) mean mg mb h₁ → KtsDicts (outer.filterMap (·.frame)) h₁ → News h₁ L h' (bankLed w.params c b ((wd, ow) :: (pa, LO [.ref e0] n) :: (e0, LO [.int t tt, .int wx tw, x2, x3] n0) :: Z)) → Q (.str (Str.ofString "limit") tx) { s with heap := h', toks := tk' }) :
    wpAny (model PySem.Challenge.rw_nz0152_01.row.prog w) { handled := none, depth := dp, frames := some (env :: outer), guards := gd, units := un } (call (.ref 731) [.ref wd, .str (Str.ofString "sign_extend") top, .ref pa, .int low tlo]) Q E s := by
  have W8 := I.termW W9 hl hl2
  refine wpAny_call ?_
  k_dflt (refine' code_defE ?k1 ?k2 ?k3 ?k4 ?k5 ?XB ?TB ?D ?T0 ?kA ?kF ?kK ?k6 ?k7 ?k8 ?k9 ?kB ?_ ?c2 ?c3 ?c4 ?c5)
  case kA => exact rfl
  case kF => exact hf
  case kK => exact hke
  case k1 => exact B
  case k2 => exact F
  case k3 => exact X
  case k4 => exact N
  case k5 => exact T
  case XB => exact XB
  case TB => exact TB
  case D => exact D
  case T0 => exact T0
  case k6 => k_is
  case k7 => k_is
  case k8 => ktr_room
  case k9 => exact BindsTo.of_eq rfl
  case c5 => decide
  case kB => exact locs rfl
  case c2 => exact rfl
  case c3 => exact rfl
  case c4 => exact rfl
  intro g' L' h' FG' F' N' B' X' T' D'
  dsimp only
  dsimp only [bankLed] at N'
  try k_fold
  k_steps
  all_goals (try delta Stop)
  rename Fr g' L' _ _ => F9
  rename News g' L' _ _ => N9
  refine sext B' F9 X' T' rfl rfl (dle hdp rfl) (ule hun rfl) N9 (I.mono fun p hp => .tail _ (.tail _ (.tail _ hp))) O ZO W9 hl hl2 ?zero ?ok ?exc ?lim
  case zero =>
    intro a1 a2 h7 tk7 F7 N7
    refine leaveS_l F7 N7 fun kF kN => ?_
    exact zero a1 a2 _ _ h₀ T0 kF B X T D kN
  case ok =>
    intro a1 a2 a3 h7 tk7 b7 Z7 ts7 sw7 r tr F7 N7 I7 s7 ZO7 p7 l7 M7
    refine leaveS_l F7 N7 fun kF kN => ?_
    exact ok a1 a2 a3 _ _ h₀ b7 Z7 ts7 sw7 r tr T0 kF B X T D kN I7 s7 ZO7 p7 l7 M7
  case exc =>
    intro hc e5 t5 vs5 h5 tk5 G5 FG5 R5 U5
    refine caught_SO0 R5 FG5 B' U5 XB TB D' KtsTurn.refl ?ex ?q fun h6 g6 n6 T6 F6 N6n G6 N6 B6 X6 P6 D6 => ?_
    case ex => k_is
    case q => kts_isx
    clear N6n G6 F9 N9 FG5 R5 U5
    dsimp only [bankLed] at N6
    k_steps
    all_goals (try delta Stop)
    rename Fr _ L _ m => kF
    exact bad hc _ _ _ _ (by assumption) kF (by assumption) (by assumption) (by assumption) (by assumption) (by assumption)
  case lim =>
    intro hc1 hc2 hc3 e5 t5 vs5 h5 tk5 G5 FG5 R5 U5
    refine caught_second (C1 := 67) R5 FG5 B' U5 XB TB D' KtsTurn.refl ?ex1 ?q1 ?sub1 ?ex ?q fun h6 g6 T6 F6 N6 B6 X6 P6 D6 => ?_
    case ex1 => k_is
    case q1 => kts_isx
    case sub1 => kernel_rfl
    case ex => k_is
    case q => kts_isx
    clear F9 N9 FG5 R5 U5
    dsimp only [bankLed] at N6
    k_steps
    all_goals (try delta Stop)
    rename Fr _ L _ m => kF
    exact lim hc1 hc2 hc3 _ _ _ _ (by assumption) kF (by assumption) (by assumption) (by assumption) (by assumption) (by assumption)
end
end
section
open PySem PySem.W PySem.Calls PyProof.Rows
noncomputable abbrev feedKvs (cl : Addr) (k b : Int) (tk tb : Tok) : List (Str × Value) := [("cells", .ref cl), ("count", .int k tk), ("blend", .int b tb)]
section
variable {w : World} {mean : ExcName → Option Value} {mg mb : Str → Option Value} {dp un : Nat} {gd : Option (List Code)} {env : Env} {outer : List Env} {A₀ : Around} {base h₀ : Heap} {L : Addr} {m : Str → Option Value} {s : Shared} {Q E : Value → Shared → Prop}
    {Y : List (Addr × Obj)} {fd cl : Addr} {o : Obj} {vs : List Value} {ns : List Int} {n : Nat} {k b many : Int} {tk tb tm : Tok}
set_option maxHeartbeats 20000000 in
theorem draw (B : Below A₀ base outer h₀) (F : Fr h₀ L s.heap m) (X : (heap w.params).In h₀) (T : Top view (looseW view []) mean mg mb h₀)
    (hf : env.frame = some L) (hk : env.scope.kind = .function) (hdp : dp ≤ 445) (hun : un ≤ 485)
    (N : News h₀ L s.heap ((fd, o) :: (cl, LO vs n) :: Y)) (hfc : fd ≠ cl) (hY : ∀ p ∈ Y, p.1 ≠ fd) (ho : o.IsDictOf (strKind PySem.Challenge.rw_nz0152_01.row.prog w) (feedKvs cl k b tk tb))
    (hI : IntsAre vs ns) (hk0 : 0 ≤ k) (hk1 : k ≤ 1000) (hb0 : 0 ≤ b) (hb1 : b ≤ 10000) (hm0 : 0 < many) (hlen : ns.length ≤ 40)
    (ret : ∀ r t h' tk' o' t', Fr h₀ L h' m → News h₀ L h' ((fd, o') :: (cl, LO vs n) :: Y) → o'.IsDictOf (strKind PySem.Challenge.rw_nz0152_01.row.prog w) (feedKvs cl (k + 1) b t' tb) → 0 ≤ r → r < many → Q (.int r t) { s with heap := h', toks := tk' }) :
    wpAny (model PySem.Challenge.rw_nz0152_01.row.prog w) { handled := none, depth := dp, frames := some (env :: outer), guards := gd, units := un } (call (.ref 686) [.ref fd, .int many tm]) Q E s := by
  have hkl := hI.length
  have hne : ∀ p ∈ (cl, LO vs n) :: Y, p.1 ≠ fd := List.forall_mem_cons.mpr ⟨hfc.symm, hY⟩
  refine wpAny_call ?_
  k_dflt (refine' code_def ?k1 ?k2 ?k3 ?k4 ?k5 ?kA ?kF ?kK ?k6 ?k7 ?k8 ?k9 ?kB ?_ ?c2 ?c3 ?c4 ?c5)
  case kA => exact rfl
  case kF => exact hf
  case kK => exact hk
  case k1 => exact B
  case k2 => exact F
  case k3 => exact X
  case k4 => exact N
  case k5 => exact T
  case k6 => k_is
  case k7 => k_is
  case k8 => ktr_room
  case k9 => exact BindsTo.of_eq rfl
  case c5 => decide
  case kB => exact locs rfl
  case c2 => exact rfl
  case c3 => exact rfl
  case c4 => exact rfl
  intro g' L' h' FG' F' N' B' X' T'
  dsimp only
  try k_fold
  k_steps
  all_goals (try delta Stop)
  all_goals
    rename News h₀ L _ _ => N9
    rename Fr h₀ L _ _ => F9
    rename Obj.IsDictOf _ _ _ => D9
    exact ret _ _ _ _ _ _ F9 N9 D9 (Int.fmod_nonneg_of_pos _ hm0) (Int.fmod_lt_of_pos _ hm0)
set_option maxHeartbeats 20000000 in
theorem spot (B : Below A₀ base outer h₀) (F : Fr h₀ L s.heap m) (X : (heap w.params).In h₀) (T : Top view (looseW view []) mean mg mb h₀)
    (hf : env.frame = some L) (hk : env.scope.kind = .function) (hdp : dp ≤ 440) (hun : un ≤ 470) {wide : Int} {twd : Tok}
    (N : News h₀ L s.heap ((fd, o) :: (cl, LO vs n) :: Y)) (hfc : fd ≠ cl) (hY : ∀ p ∈ Y, p.1 ≠ fd) (ho : o.IsDictOf (strKind PySem.Challenge.rw_nz0152_01.row.prog w) (feedKvs cl k b tk tb))
    (hI : IntsAre vs ns) (hk0 : 0 ≤ k) (hk1 : k ≤ 900) (hb0 : 0 ≤ b) (hb1 : b ≤ 10000) (hw0 : 0 ≤ wide) (hlen : ns.length ≤ 40)
    (ret : ∀ r t h' tk' o' t' (k' : Int), Fr h₀ L h' m → News h₀ L h' ((fd, o') :: (cl, LO vs n) :: Y) → o'.IsDictOf (strKind PySem.Challenge.rw_nz0152_01.row.prog w) (feedKvs cl k' b t' tb) → 0 ≤ k' → k' ≤ k + 2 → -1 ≤ r → r ≤ wide → Q (.int r t) { s with heap := h', toks := tk' }) :
    wpAny (model PySem.Challenge.rw_nz0152_01.row.prog w) { handled := none, depth := dp, frames := some (env :: outer), guards := gd, units := un } (call (.ref 693) [.ref fd, .int wide twd]) Q E s := by
  refine wpAny_call ?_
  k_dflt (refine' code_def ?k1 ?k2 ?k3 ?k4 ?k5 ?kA ?kF ?kK ?k6 ?k7 ?k8 ?k9 ?kB ?_ ?c2 ?c3 ?c4 ?c5)
  case kA => exact rfl
  case kF => exact hf
  case kK => exact hk
  case k1 => exact B
  case k2 => exact F
  case k3 => exact X
  case k4 => exact N
  case k5 => exact T
  case k6 => k_is
  case k7 => k_is
  case k8 => ktr_room
  case k9 => exact BindsTo.of_eq rfl
  case c5 => decide
  case kB => exact locs rfl
  case c2 => exact rfl
  case c3 => exact rfl
  case c4 => exact rfl
  intro g' L' h' FG' F' N' B' X' T'
  dsimp only
  try k_fold
  k_steps
  all_goals (try delta Stop)
  refine draw (many := 6) B' F' X' T' rfl rfl (dle hdp rfl) (ule hun rfl) N' hfc hY ho hI hk0 (by omega) hb0 hb1 (by omega) hlen fun r t h5 tk5 o5 t5 F5 N5 D5 r0 r1 => ?_
  dsimp only
  k_steps
  all_goals (try delta Stop)
  · rename Fr g' L' _ _ => F9
    rename News g' L' _ _ => N9
    refine draw (many := wide + 1) B' F9 X' T' rfl rfl (dle hdp rfl) (ule hun rfl) N9 hfc hY D5 hI (by omega) (by omega) hb0 hb1 (by omega) hlen fun r2 t2 h6 tk6 o6 t6 F6 N6 D6 r20 r21 => ?_
    dsimp only
    clear F9 N9
    k_steps
    all_goals (try delta Stop)
    exact ret _ _ _ _ _ _ _ (by assumption) (by assumption) D6 (by omega) (by omega) (by omega) (by omega)
  · rename Fr h₀ L _ _ => F9
    rename News h₀ L _ _ => N9
    have hr : r = 0 ∨ r = 1 ∨ r = 2 ∨ r = 3 := four (by assumption) (by omega)
    have hv : -1 ≤ [wide - 1, wide, -1, 0].getD r.toNat 0 ∧ [wide - 1, wide, -1, 0].getD r.toNat 0 ≤ wide := by
      rcases hr with rfl | rfl | rfl | rfl <;> simp <;> omega
    exact ret _ _ _ _ _ _ _ F9 (fun p hp => N9 p (by first | exact hp | exact .tail _ hp)) D5 (by omega) (by omega) hv.1 hv.2
end
end
section
open PySem PySem.W PySem.Calls PyProof.Rows
theorem paired_self {p : Value → Bool} : ∀ {vs ys : List Value}, Paired (fun v y => y = v) (vs.filter p) ys → ys = vs.filter p := by
  intro vs ys h
  generalize vs.filter p = us at h
  induction h with
  | nil => rfl
  | cons a _ ih => rw [a, ih]
section
variable {prog : Program} {w : World} {A : Around} {E : Value → Shared → Prop} {s₁ : Shared} {h₀ : Heap} {L : Addr} {m : Str → Option Value} {news : List (Addr × Obj)}
/-- a comprehension that picks items of a list -/
theorem srcC_pick {env : Env} {elt : Expr} {x : Str} {ifs : List Expr} {scope : Scope} {Q : Value → Shared → Prop} {l : Addr} {vs : List Value} (pz : Value → Bool)
    (hh : A.handled = none) (hl : s₁.heap.IsList l vs.toArray) (F : Fr h₀ L s₁.heap m) (N : News h₀ L s₁.heap news)
    (g1 : ∀ C v s₂ m₂ E', v ∈ vs → s₂.heap.Ns (compEnv scope C env).locals m₂ → m₂ x = some v → (∀ b o, s₁.heap.get? b = some o → s₂.heap.get? b = some o) →
        wpAny (model prog w) A (forIn ifs true fun c r => if r = true then do let ok ← isTrue c (compEnv scope C env) (eval c (compEnv scope C env)); pure (ForInStep.yield ok) else pure (ForInStep.yield r))
          (fun ok s₃ => ok = pz v ∧ Keeps s₂ s₃) E' s₂)
    (g2 : ∀ C v s₂ m₂ E', v ∈ vs → s₂.heap.Ns (compEnv scope C env).locals m₂ → m₂ x = some v → wpAny (model prog w) A (eval elt (compEnv scope C env)) (fun r s₃ => r = v ∧ Keeps s₂ s₃) E' s₂)
    (g3 : ∀ D n h' tk, Fr h₀ L h' m → News h₀ L h' ((D, LO (vs.filter pz) n) :: news) → (∀ p ∈ news, p.1 ≠ D) → Q (.ref D) { s₁ with heap := h', toks := tk })
    (hsz : vs.length ≤ 100000) :
    wpAny (model prog w) A (pyIter (.ref l)) (CompPost prog w A env scope x ifs elt Q) E s₁ := by
  have hlt : l < s₁.heap.objs.size := by obtain ⟨_, e, _⟩ := hl; exact Heap.lt_size e
  refine wpAny_pyIter_list hl ?_
  have up : ∀ (h' : Heap), (∀ b o', b ∉ [s₁.heap.objs.size] → (s₁.heap.push { cls := .type "list_iterator", data := .fields #[.ref l, .int 0 0] }).get? b = some o' → h'.get? b = some o') → ∀ b o', s₁.heap.get? b = some o' → h'.get? b = some o' :=
    fun h' hk b o' e => hk b o' (not_iter_of_old e) (Heap.get?_push_of_some _ e)
  refine ⟨pz, fun v r => r = v, s₁.heap.objs.size, [s₁.heap.objs.size, l], [s₁.heap.objs.size], vs.toArray.size, _, _, rfl, Walks.list hh _ l (Nat.ne_of_lt hlt) vs.toArray, (by rw [List.size_toArray, sizeLine_eq]; omega),
    ⟨⟨_, Heap.get?_push_size _ rfl, rfl, rfl⟩, hl.at fun o e => Heap.get?_push_of_some _ e⟩, ?_, ⟨?_, ?_⟩, ?_⟩
  · intro b hb
    show b < (s₁.heap.push _).objs.size
    rw [Heap.size_push]
    rcases List.mem_cons.mp hb with rfl | hb
    · exact Nat.lt_succ_self _
    · rw [List.mem_singleton.mp hb]; exact Nat.lt_succ_of_lt hlt
  · intro C i v s₃ m₃ E' hP hn hm hk htk
    exact g1 C _ s₃ m₃ E' (List.mem_of_getElem? (by simpa using hP : vs[i]? = some v)) hn hm (up _ hk)
  · intro C i v s₃ m₃ E' hP hp hn hm hk htk
    exact g2 C _ s₃ m₃ E' (List.mem_of_getElem? (by simpa using hP : vs[i]? = some v)) hn hm
  · intro D h' tk ys vs' hnew hlD hplD hlen hP hF hk
    have e' : vs' = vs := by simpa using walked_is hlen hP
    subst e'
    obtain ⟨n, hD⟩ := hplD
    have ey : ys = (vs'.filter pz).toArray := by rw [← paired_self hF]
    rw [ey] at hD
    have hnD : h₀.get? D = none := by
      cases e : h₀.get? D with
      | none => rfl
      | some o' => rw [Heap.get?_push_of_some _ (F.keep _ _ e)] at hnew; cases hnew
    exact g3 D n h' tk (F.keeps (up h' hk)) (News.more (F.keeps (up h' hk)) (N.grown (up h' hk)) hD (fun es n q => by cases q) hnD) fun p hp e => by
      rw [← e, Heap.get?_push_of_some _ (N p hp).1] at hnew; cases hnew
end
section
variable {w : World} {mean : ExcName → Option Value} {mg mb : Str → Option Value} {dp un : Nat} {gd : Option (List Code)} {env : Env} {outer : List Env} {A₀ : Around} {base h₀ : Heap} {L : Addr} {m : Str → Option Value} {s : Shared} {Q E : Value → Shared → Prop}
    {Y : List (Addr × Obj)} {fd cl pl : Addr} {o : Obj} {vs pv : List Value} {ns : List Int} {n pn : Nat} {k b many : Int} {tk tb tm : Tok}
/-- the pool's entries -/
noncomputable def Pool (Y : List (Addr × Obj)) (pv : List Value) : Prop := ∀ v ∈ pv, ∃ (e : Addr) (x0 x1 x2 x3 : Value) (q : Nat), v = .ref e ∧ (e, LO [x0, x1, x2, x3] q) ∈ Y ∧ (x2 = .none ∨ ∃ a, x2 = .ref a)
noncomputable def pz9 (Y : List (Addr × Obj)) (v : Value) : Bool := @decide (∃ (e : Addr) (x0 x1 x2 x3 : Value) (q : Nat), v = .ref e ∧ (e, LO [x0, x1, x2, x3] q) ∈ Y ∧ x2 ≠ .none) (Classical.propDecidable _)
theorem pz9_is {Y : List (Addr × Obj)} {h : Heap} (hN : ∀ p ∈ Y, h.get? p.1 = some p.2) {e : Addr} {x0 x1 x2 x3 : Value} {q : Nat} (hm : (e, LO [x0, x1, x2, x3] q) ∈ Y) : pz9 Y (.ref e) = true ↔ x2 ≠ .none := by
  unfold pz9
  rw [@decide_eq_true_iff _ (Classical.propDecidable _)]
  constructor
  · rintro ⟨e', y0, y1, y2, y3, q', h1, h2, h3⟩
    obtain rfl : e = e' := by injection h1
    have e1 : h.get? e = some (LO [x0, x1, x2, x3] q) := hN _ hm
    have e2 : h.get? e = some (LO [y0, y1, y2, y3] q') := hN _ h2
    rw [e1] at e2
    have e3 : (LO [x0, x1, x2, x3] q).data = (LO [y0, y1, y2, y3] q').data := congrArg Obj.data (Option.some.inj e2)
    injection e3 with ha _
    have ha' : [x0, x1, x2, x3] = [y0, y1, y2, y3] := by simpa using ha
    injection ha' with _ ha'; injection ha' with _ ha'; injection ha' with ha' _
    rw [ha']; exact h3
  · intro h
    exact ⟨e, x0, x1, x2, x3, q, rfl, hm, h⟩
set_option maxHeartbeats 20000000 in
theorem some_ (B : Below A₀ base outer h₀) (F : Fr h₀ L s.heap m) (X : (heap w.params).In h₀) (T : Top view (looseW view []) mean mg mb h₀)
    (hf : env.frame = some L) (hk : env.scope.kind = .function) (hdp : dp ≤ 440) (hun : un ≤ 470)
    (N : News h₀ L s.heap ((fd, o) :: (cl, LO vs n) :: (pl, LO pv pn) :: Y)) (hfc : fd ≠ cl) (hfp : fd ≠ pl) (hY : ∀ p ∈ Y, p.1 ≠ fd) (ho : o.IsDictOf (strKind PySem.Challenge.rw_nz0152_01.row.prog w) (feedKvs cl k b tk tb))
    (hI : IntsAre vs ns) (hk0 : 0 ≤ k) (hk1 : k ≤ 900) (hb0 : 0 ≤ b) (hb1 : b ≤ 10000) (hlen : ns.length ≤ 40) (hP : Pool Y pv) (hpl : pv.length ≤ 100) (hsome : ∃ e x0 x1 x2 x3 q, .ref e ∈ pv ∧ (e, LO [x0, x1, x2, x3] q) ∈ Y ∧ x2 ≠ .none)
    (ret : ∀ v h' tk' o' t' (k' : Int), Fr h₀ L h' m → News h₀ L h' ((fd, o') :: (cl, LO vs n) :: (pl, LO pv pn) :: Y) → o'.IsDictOf (strKind PySem.Challenge.rw_nz0152_01.row.prog w) (feedKvs cl k' b t' tb) → 0 ≤ k' → k' ≤ k + 2 → v ∈ pv → Q v { s with heap := h', toks := tk' }) :
    wpAny (model PySem.Challenge.rw_nz0152_01.row.prog w) { handled := none, depth := dp, frames := some (env :: outer), guards := gd, units := un } (call (.ref 698) [.ref fd, .ref pl]) Q E s := by
  have hY' : ∀ p ∈ (pl, LO pv pn) :: Y, p.1 ≠ fd := List.forall_mem_cons.mpr ⟨hfp.symm, hY⟩
  refine wpAny_call ?_
  k_dflt (refine' code_def ?k1 ?k2 ?k3 ?k4 ?k5 ?kA ?kF ?kK ?k6 ?k7 ?k8 ?k9 ?kB ?_ ?c2 ?c3 ?c4 ?c5)
  case kA => exact rfl
  case kF => exact hf
  case kK => exact hk
  case k1 => exact B
  case k2 => exact F
  case k3 => exact X
  case k4 => exact N
  case k5 => exact T
  case k6 => k_is
  case k7 => k_is
  case k8 => ktr_room
  case k9 => exact BindsTo.of_eq rfl
  case c5 => decide
  case kB => exact locs rfl
  case c2 => exact rfl
  case c3 => exact rfl
  case c4 => exact rfl
  intro g' L' h' FG' F' N' B' X' T'
  dsimp only
  try k_fold
  k_steps
  all_goals (try delta Stop)
  refine draw (many := 6) B' F' X' T' rfl rfl (dle hdp rfl) (ule hun rfl) N' hfc hY' ho hI hk0 (by omega) hb0 hb1 (by omega) hlen fun r t h5 tk5 o5 t5 F5 N5 D5 r0 r1 => ?_
  dsimp only
  k_steps
  all_goals (try delta Stop)
  rotate_left
  · rename Fr g' L' _ _ => F9
    rename News g' L' _ _ => N9
    have hlf : (pv.filter (pz9 Y)).length ≤ 100 := Nat.le_trans (List.length_filter_le _ _) hpl
    have hNY : ∀ p ∈ Y, _ := fun p hp => (N9 p (.tail _ (.tail _ (.tail _ hp)))).1
    have hpos : 0 < (pv.filter (pz9 Y)).length := by
      obtain ⟨e, x0, x1, x2, x3, q, h1, h2, h3⟩ := hsome
      exact List.length_pos_of_mem (List.mem_filter.mpr ⟨h1, (pz9_is hNY h2).mpr h3⟩)
    refine srcC_pick (pz9 Y) (by with_unfolding_all rfl) (N9.isList (by k_mem)) F9 N9 ?g1 ?g2 ?g3 (by omega)
    case g1 =>
      intro C v s₂ m₂ E' hv hn hm hk
      refine wpAny_tests_one ?_
      obtain ⟨e, x0, x1, x2, x3, q, rfl, hq, hx2⟩ := hP v hv
      have hle : s₂.heap.IsList e #[x0, x1, x2, x3] := ⟨_, hk _ _ (hNY _ hq), rfl, _, rfl⟩
      rcases hx2 with rfl | ⟨a, rfl⟩
      · k_steps
        all_goals (try delta Stop)
        · exact (Bool.eq_false_iff.mpr fun h => (pz9_is hNY hq).mp h rfl).symm
        · exact ⟨_, _, rfl, fun _ _ e => e⟩
      · k_steps
        all_goals (try delta Stop)
        · exact ((pz9_is hNY hq).mpr (by simp)).symm
        · exact ⟨_, _, rfl, fun _ _ e => e⟩
    case g2 =>
      intro C v s₂ m₂ E' hv hn hm
      k_steps
      all_goals (try delta Stop)
      exact ⟨_, _, rfl, fun _ _ e => e⟩
    case g3 =>
      intro D9 n9 h9 tk9 F9 N9 l9
      k_steps
      all_goals (try delta Stop)
      rename News g' L' _ _ => N8
      rename Fr g' L' _ _ => F8
      have N8' : News g' L' _ ((fd, o5) :: (cl, LO vs n) :: (D9, LO (pv.filter (pz9 Y)) n9) :: (pl, LO pv pn) :: Y) := fun p hp => N8 p (by
        rcases List.mem_cons.mp hp with rfl | hp
        · k_mem
        rcases List.mem_cons.mp hp with rfl | hp
        · k_mem
        rcases List.mem_cons.mp hp with rfl | hp
        · k_mem
        exact .tail _ (.tail _ (.tail _ hp)))
      have hY9 : ∀ p ∈ (D9, LO (pv.filter (pz9 Y)) n9) :: (pl, LO pv pn) :: Y, p.1 ≠ fd := List.forall_mem_cons.mpr ⟨(l9 (fd, o5) (by k_mem)).symm, hY'⟩
      refine draw (many := (pv.filter (pz9 Y)).length) B' F8 X' T' rfl rfl (dle hdp rfl) (ule hun rfl) N8' hfc hY9 D5 hI (by omega) (by omega) hb0 hb1 (by omega) hlen fun r2 t2 h6 tk6 o6 t6 F6 N6 D6 r20 r21 => ?_
      dsimp only
      have hget : (pv.filter (pz9 Y))[r2.toNat]? = some ((pv.filter (pz9 Y))[r2.toNat]'(tlt r20 r21)) := List.getElem?_eq_getElem _
      k_steps
      all_goals (try delta Stop)
      rename News h₀ L _ _ => N7
      refine ret _ _ _ _ _ _ (by assumption) (fun p hp => N7 p ?_) D6 (by omega) (by omega) (List.mem_filter.mp (List.getElem_mem _)).1
      rcases List.mem_cons.mp hp with rfl | hp
      · k_mem
      rcases List.mem_cons.mp hp with rfl | hp
      · k_mem
      exact .tail _ (.tail _ (.tail _ hp))
  · rename Fr g' L' _ _ => F9
    rename News g' L' _ _ => N9
    have hpos : 0 < pv.length := by
      obtain ⟨e, x0, x1, x2, x3, q, h1, h2, h3⟩ := hsome
      exact List.length_pos_of_mem h1
    refine draw (many := pv.length) B' F9 X' T' rfl rfl (dle hdp rfl) (ule hun rfl) N9 hfc hY' D5 hI (by omega) (by omega) hb0 hb1 (by omega) hlen fun r2 t2 h6 tk6 o6 t6 F6 N6 D6 r20 r21 => ?_
    dsimp only
    have hget : pv[r2.toNat]? = some (pv[r2.toNat]'(tlt r20 r21)) := List.getElem?_eq_getElem _
    clear F9 N9
    k_steps
    all_goals (try delta Stop)
    exact ret _ _ _ _ _ _ (by assumption) (by assumption) D6 (by omega) (by omega) (List.getElem_mem _)
end
end
section
open PySem PySem.W PySem.Calls PyProof.Rows
set_option hygiene false in
local macro_rules | `(tactic| walk_at "compareOp NotEq ref ref") => `(tactic| (k_here; k_dflt (refine' ne_nil1 (by exact News.isList (by k_asm) (by k_mem)) (by exact News.isList (by k_asm) (by k_mem)) (by ktr_units) ?_; k_whole)))
local macro_rules | `(tactic| walk_at "eval ListComp") => `(tactic| ((with_reducible apply ListComp_rowsP); (case hfree => decide); (case hcell => decide); (case hkind => with_unfolding_all rfl); (case hnames => decide); (case hx => with_unfolding_all rfl); (case hs => intro _; with_unfolding_all rfl)))
section
variable {prog : Program} {w : World} {A : Around} {E : Value → Shared → Prop} {s : Shared} {a b : Addr} {xs : List Value} {Q : Value → Shared → Prop}
theorem ne_nil (ha : s.heap.IsList a xs.toArray) (hb : s.heap.IsList b ([] : List Value).toArray) (hu : A.units + 64 < cLine) (h : Q (.bool (!xs.isEmpty)) s) : wpAny (model prog w) A (compareOp .NotEq (.ref a) (.ref b)) Q E s := by
  cases xs with
  | nil => exact ke_ne_ints ha hb .nil .nil hu (by simpa using h)
  | cons x r => exact SeqAt.RcNeAt.lists_lengths ha hb (by simp) (by omega) prog w E Q (by simpa using h)
end
theorem ne_nil1 {prog : Program} {w : World} {A : Around} {E : Value → Shared → Prop} {s : Shared} {a b : Addr} {x : Value} {xs : List Value} {Q : Value → Shared → Prop} (ha : s.heap.IsList a (x :: xs).toArray) (hb : s.heap.IsList b ([] : List Value).toArray) (hu : A.units + 64 < cLine) (h : Q (.bool true) s) : wpAny (model prog w) A (compareOp .NotEq (.ref a) (.ref b)) Q E s := ne_nil ha hb hu (by simpa using h)
noncomputable def pzw (Y : List (Addr × Obj)) (v : Value) : Bool := @decide (∃ (e : Addr) (x0 x2 x3 : Value) (t : Tok) (q : Nat), v = .ref e ∧ (e, LO [x0, .int 0 t, x2, x3] q) ∈ Y) (Classical.propDecidable _)
theorem pzw_is {Y : List (Addr × Obj)} {h : Heap} (hN : ∀ p ∈ Y, h.get? p.1 = some p.2) {e : Addr} {x0 x2 x3 : Value} {wx : Int} {t : Tok} {q : Nat} (hm : (e, LO [x0, .int wx t, x2, x3] q) ∈ Y) : pzw Y (.ref e) = (wx == 0) := by
  rw [Bool.eq_iff_iff]
  unfold pzw
  rw [@decide_eq_true_iff _ (Classical.propDecidable _), beq_iff_eq]
  constructor
  · rintro ⟨e', y0, y2, y3, t', q', h1, h2⟩
    obtain rfl : e = e' := by injection h1
    have e1 : h.get? e = some (LO [x0, .int wx t, x2, x3] q) := hN _ hm
    have e2 : h.get? e = some (LO [y0, .int 0 t', y2, y3] q') := hN _ h2
    rw [e1] at e2
    have e3 : (LO [x0, .int wx t, x2, x3] q).data = (LO [y0, .int 0 t', y2, y3] q').data := congrArg Obj.data (Option.some.inj e2)
    injection e3 with ha _
    have ha' : [x0, .int wx t, x2, x3] = [y0, .int 0 t', y2, y3] := by simpa using ha
    injection ha' with _ ha'; injection ha' with ha' _; injection ha'
  · rintro rfl
    exact ⟨e, x0, x2, x3, t, q, rfl, hm⟩
section
variable {w : World} {mean : ExcName → Option Value} {mg mb : Str → Option Value} {dp un : Nat} {gd : Option (List Code)} {env : Env} {outer : List Env} {A₀ : Around} {base h₀ : Heap} {L : Addr} {m : Str → Option Value} {s : Shared} {Q E : Value → Shared → Prop}
    {Y : List (Addr × Obj)} {pa e0 e1 dt : Addr} {n n0 n1 : Nat} {x0 x2 x3 y0 y2 y3 : Value} {wx wx2 high low : Int} {tw tw2 top th tlo : Tok}
set_option maxHeartbeats 20000000 in
theorem due_extr (B : Below A₀ base outer h₀) (F : Fr h₀ L s.heap m) (X : (heap w.params).In h₀) (T : Top view (looseW view []) mean mg mb h₀)
    (hf : env.frame = some L) (hk : env.scope.kind = .function) (hdp : dp ≤ 445) (hun : un ≤ 485)
    (N : News h₀ L s.heap ((pa, LO [.ref e0] n) :: (e0, LO [x0, .int wx tw, x2, x3] n0) :: (dt, tupO [.int high th, .int low tlo]) :: Y))
    (bad : wx = 0 ∨ ¬ (0 ≤ low ∧ low ≤ high ∧ high < wx) → ∀ h' tk' t, Fr h₀ L h' m → News h₀ L h' ((pa, LO [.ref e0] n) :: (e0, LO [x0, .int wx tw, x2, x3] n0) :: (dt, tupO [.int high th, .int low tlo]) :: Y) → Q (.str (Str.ofString "sort") t) { s with heap := h', toks := tk' })
    (ok : wx ≠ 0 → 0 ≤ low → low ≤ high → high < wx → ∀ h' tk' t, Fr h₀ L h' m → News h₀ L h' ((pa, LO [.ref e0] n) :: (e0, LO [x0, .int wx tw, x2, x3] n0) :: (dt, tupO [.int high th, .int low tlo]) :: Y) → Q (.int (high - low + 1) t) { s with heap := h', toks := tk' }) :
    wpAny (model PySem.Challenge.rw_nz0152_01.row.prog w) { handled := none, depth := dp, frames := some (env :: outer), guards := gd, units := un } (call (.ref 724) [.str (Str.ofString "extract") top, .ref pa, .ref dt]) Q E s := by
  refine wpAny_call ?_
  k_dflt (refine' code_def ?k1 ?k2 ?k3 ?k4 ?k5 ?kA ?kF ?kK ?k6 ?k7 ?k8 ?k9 ?kB ?_ ?c2 ?c3 ?c4 ?c5)
  case kA => exact rfl
  case kF => exact hf
  case kK => exact hk
  case k1 => exact B
  case k2 => exact F
  case k3 => exact X
  case k4 => exact N
  case k5 => exact T
  case k6 => k_is
  case k7 => k_is
  case k8 => ktr_room
  case k9 => exact BindsTo.of_eq rfl
  case c5 => decide
  case kB => exact locs rfl
  case c2 => exact rfl
  case c3 => exact rfl
  case c4 => exact rfl
  intro g' L' h' FG' F' N' B' X' T'
  dsimp only
  try k_fold
  k_steps
  all_goals (try delta Stop)
  rename Fr g' L' _ _ => F9
  rename News g' L' _ _ => N9
  have hNY : ∀ p ∈ ((pa, LO [.ref e0] n) :: (e0, LO [x0, .int wx tw, x2, x3] n0) :: (dt, tupO [.int high th, .int low tlo]) :: Y), _ := fun p hp => (N9 p hp).1
  have hz := pzw_is hNY (e := e0) (by k_mem)
  refine srcC_pick (pzw ((pa, LO [.ref e0] n) :: (e0, LO [x0, .int wx tw, x2, x3] n0) :: (dt, tupO [.int high th, .int low tlo]) :: Y)) (by with_unfolding_all rfl) (N9.isList (by k_mem)) F9 N9 ?g1 ?g2 ?g3 (by simp)
  case g1 =>
    intro C v s₂ m₂ E' hv hn hm hk
    refine wpAny_tests_one ?_
    rcases List.mem_singleton.mp hv with rfl
    have hle : s₂.heap.IsList e0 #[x0, .int wx tw, x2, x3] := ⟨_, hk _ _ (hNY (e0, LO [x0, .int wx tw, x2, x3] n0) (by k_mem)), rfl, _, rfl⟩
    k_steps
    all_goals (try delta Stop)
    · exact hz.symm
    · exact ⟨_, _, rfl, fun _ _ e => e⟩
  case g2 =>
    intro C v s₂ m₂ E' hv hn hm
    k_steps
    all_goals (try delta Stop)
    exact ⟨_, _, rfl, fun _ _ e => e⟩
  case g3 =>
    intro D9 n9 h9 tk9 F9 N9 l9
    clear hNY
    simp only [List.filter_cons, List.filter_nil, hz] at N9
    by_cases hw0 : wx = 0
    · simp only [hw0, beq_self_eq_true, if_true] at N9
      k_steps
      all_goals (try delta Stop)
      exact bad (.inl hw0) _ _ _ (by assumption) (fun p hp => by rename News h₀ L _ _ => N7; exact N7 p (by subst hw0; exact .tail _ (.tail _ hp)))
    · simp only [beq_eq_false_iff_ne.mpr hw0, Bool.false_eq_true, if_false] at N9
      k_steps
      all_goals (try delta Stop)
      · rename News h₀ L _ _ => N7
        exact ok hw0 (by omega) (by omega) (by omega) _ _ _ (by assumption) (fun p hp => N7 p (.tail _ (.tail _ hp)))
      all_goals
        rename News h₀ L _ _ => N7
        exact bad (.inr (by omega)) _ _ _ (by assumption) (fun p hp => N7 p (.tail _ (.tail _ hp)))
end
end
set_option hygiene false in
local macro_rules | `(tactic| walk_at "compareOp NotEq ref ref") => `(tactic| (k_here; k_dflt (refine' ne_nil1 (by exact News.isList (by k_asm) (by k_mem)) (by exact News.isList (by k_asm) (by k_mem)) (by ktr_units) ?_; k_whole)))
section
open PySem PySem.W PySem.Calls PyProof.Rows
local macro_rules | `(tactic| walk_at "pad0") => `(tactic| skip)
local macro_rules | `(tactic| walk_at "eval ListComp") => `(tactic| ((with_reducible apply ListComp_rowsP); (case hfree => decide); (case hcell => decide); (case hkind => with_unfolding_all rfl); (case hnames => decide); (case hx => with_unfolding_all rfl); (case hs => intro _; with_unfolding_all rfl)))
section
variable {w : World} {mean : ExcName → Option Value} {mg mb : Str → Option Value} {dp un : Nat} {gd : Option (List Code)} {env : Env} {outer : List Env} {A₀ : Around} {base h₀ : Heap} {L : Addr} {m : Str → Option Value} {s : Shared} {Q E : Value → Shared → Prop}
    {Y : List (Addr × Obj)} {pa e0 e1 dt : Addr} {n n0 n1 : Nat} {x0 x2 x3 y0 y2 y3 : Value} {wx wx2 high low : Int} {tw tw2 top th tlo : Tok}
set_option maxHeartbeats 20000000 in
theorem due_z (B : Below A₀ base outer h₀) (F : Fr h₀ L s.heap m) (X : (heap w.params).In h₀) (T : Top view (looseW view []) mean mg mb h₀)
    (hf : env.frame = some L) (hk : env.scope.kind = .function) (hdp : dp ≤ 445) (hun : un ≤ 485)
    (N : News h₀ L s.heap ((pa, LO [.ref e0] n) :: (e0, LO [x0, .int wx tw, x2, x3] n0) :: Y))
    (bad : wx = 0 ∨ low < 0 → ∀ h' tk' t, Fr h₀ L h' m → News h₀ L h' ((pa, LO [.ref e0] n) :: (e0, LO [x0, .int wx tw, x2, x3] n0) :: Y) → Q (.str (Str.ofString "sort") t) { s with heap := h', toks := tk' })
    (ok : wx ≠ 0 → 0 ≤ low → wx + low ≤ 4096 → ∀ h' tk' t, Fr h₀ L h' m → News h₀ L h' ((pa, LO [.ref e0] n) :: (e0, LO [x0, .int wx tw, x2, x3] n0) :: Y) → Q (.int (wx + low) t) { s with heap := h', toks := tk' })
    (lim : wx ≠ 0 → 0 ≤ low → 4096 < wx + low → ∀ h' tk' t, Fr h₀ L h' m → News h₀ L h' ((pa, LO [.ref e0] n) :: (e0, LO [x0, .int wx tw, x2, x3] n0) :: Y) → Q (.str (Str.ofString "limit") t) { s with heap := h', toks := tk' }) :
    wpAny (model PySem.Challenge.rw_nz0152_01.row.prog w) { handled := none, depth := dp, frames := some (env :: outer), guards := gd, units := un } (call (.ref 724) [.str (Str.ofString "zero_extend") top, .ref pa, .int low tlo]) Q E s := by
  refine wpAny_call ?_
  k_dflt (refine' code_def ?k1 ?k2 ?k3 ?k4 ?k5 ?kA ?kF ?kK ?k6 ?k7 ?k8 ?k9 ?kB ?_ ?c2 ?c3 ?c4 ?c5)
  case kA => exact rfl
  case kF => exact hf
  case kK => exact hk
  case k1 => exact B
  case k2 => exact F
  case k3 => exact X
  case k4 => exact N
  case k5 => exact T
  case k6 => k_is
  case k7 => k_is
  case k8 => ktr_room
  case k9 => exact BindsTo.of_eq rfl
  case c5 => decide
  case kB => exact locs rfl
  case c2 => exact rfl
  case c3 => exact rfl
  case c4 => exact rfl
  intro g' L' h' FG' F' N' B' X' T'
  dsimp only
  try k_fold
  k_steps
  all_goals (try delta Stop)
  rename Fr g' L' _ _ => F9
  rename News g' L' _ _ => N9
  have hNY : ∀ p ∈ ((pa, LO [.ref e0] n) :: (e0, LO [x0, .int wx tw, x2, x3] n0) :: Y), _ := fun p hp => (N9 p hp).1
  have hz := pzw_is hNY (e := e0) (by k_mem)
  refine srcC_pick (pzw ((pa, LO [.ref e0] n) :: (e0, LO [x0, .int wx tw, x2, x3] n0) :: Y)) (by with_unfolding_all rfl) (N9.isList (by k_mem)) F9 N9 ?g1 ?g2 ?g3 (by simp)
  case g1 =>
    intro C v s₂ m₂ E' hv hn hm hk
    refine wpAny_tests_one ?_
    rcases List.mem_singleton.mp hv with rfl
    have hle : s₂.heap.IsList e0 #[x0, .int wx tw, x2, x3] := ⟨_, hk _ _ (hNY (e0, LO [x0, .int wx tw, x2, x3] n0) (by k_mem)), rfl, _, rfl⟩
    k_steps
    all_goals (try delta Stop)
    · exact hz.symm
    · exact ⟨_, _, rfl, fun _ _ e => e⟩
  case g2 =>
    intro C v s₂ m₂ E' hv hn hm
    k_steps
    all_goals (try delta Stop)
    exact ⟨_, _, rfl, fun _ _ e => e⟩
  case g3 =>
    intro D9 n9 h9 tk9 F9 N9 l9
    clear hNY
    simp only [List.filter_cons, List.filter_nil, hz] at N9
    by_cases hw0 : wx = 0
    · simp only [hw0, beq_self_eq_true, if_true] at N9
      k_steps
      all_goals (try delta Stop)
      exact bad (.inl hw0) _ _ _ (by assumption) (fun p hp => by rename News h₀ L _ _ => N7; subst hw0; first | exact N7 p hp | exact N7 p (.tail _ hp) | exact N7 p (.tail _ (.tail _ hp)) | exact N7 p (.tail _ (.tail _ (.tail _ hp))))
    · simp only [beq_eq_false_iff_ne.mpr hw0, Bool.false_eq_true, if_false] at N9
      k_steps
      all_goals (try delta Stop)
      all_goals rename News h₀ L _ _ => N7
      all_goals first
        | exact bad (.inr (by omega)) _ _ _ (by assumption) (fun p hp => by first | exact N7 p hp | exact N7 p (.tail _ hp) | exact N7 p (.tail _ (.tail _ hp)) | exact N7 p (.tail _ (.tail _ (.tail _ hp))))
        | exact ok hw0 (by omega) (by omega) _ _ _ (by assumption) (fun p hp => by first | exact N7 p hp | exact N7 p (.tail _ hp) | exact N7 p (.tail _ (.tail _ hp)) | exact N7 p (.tail _ (.tail _ (.tail _ hp))))
        | exact lim hw0 (by omega) (by omega) _ _ _ (by assumption) (fun p hp => by first | exact N7 p hp | exact N7 p (.tail _ hp) | exact N7 p (.tail _ (.tail _ hp)) | exact N7 p (.tail _ (.tail _ (.tail _ hp))))
set_option maxHeartbeats 20000000 in
theorem due_s (B : Below A₀ base outer h₀) (F : Fr h₀ L s.heap m) (X : (heap w.params).In h₀) (T : Top view (looseW view []) mean mg mb h₀)
    (hf : env.frame = some L) (hk : env.scope.kind = .function) (hdp : dp ≤ 445) (hun : un ≤ 485)
    (N : News h₀ L s.heap ((pa, LO [.ref e0] n) :: (e0, LO [x0, .int wx tw, x2, x3] n0) :: Y))
    (bad : wx = 0 ∨ low < 0 → ∀ h' tk' t, Fr h₀ L h' m → News h₀ L h' ((pa, LO [.ref e0] n) :: (e0, LO [x0, .int wx tw, x2, x3] n0) :: Y) → Q (.str (Str.ofString "sort") t) { s with heap := h', toks := tk' })
    (ok : wx ≠ 0 → 0 ≤ low → wx + low ≤ 4096 → ∀ h' tk' t, Fr h₀ L h' m → News h₀ L h' ((pa, LO [.ref e0] n) :: (e0, LO [x0, .int wx tw, x2, x3] n0) :: Y) → Q (.int (wx + low) t) { s with heap := h', toks := tk' })
    (lim : wx ≠ 0 → 0 ≤ low → 4096 < wx + low → ∀ h' tk' t, Fr h₀ L h' m → News h₀ L h' ((pa, LO [.ref e0] n) :: (e0, LO [x0, .int wx tw, x2, x3] n0) :: Y) → Q (.str (Str.ofString "limit") t) { s with heap := h', toks := tk' }) :
    wpAny (model PySem.Challenge.rw_nz0152_01.row.prog w) { handled := none, depth := dp, frames := some (env :: outer), guards := gd, units := un } (call (.ref 724) [.str (Str.ofString "sign_extend") top, .ref pa, .int low tlo]) Q E s := by
  refine wpAny_call ?_
  k_dflt (refine' code_def ?k1 ?k2 ?k3 ?k4 ?k5 ?kA ?kF ?kK ?k6 ?k7 ?k8 ?k9 ?kB ?_ ?c2 ?c3 ?c4 ?c5)
  case kA => exact rfl
  case kF => exact hf
  case kK => exact hk
  case k1 => exact B
  case k2 => exact F
  case k3 => exact X
  case k4 => exact N
  case k5 => exact T
  case k6 => k_is
  case k7 => k_is
  case k8 => ktr_room
  case k9 => exact BindsTo.of_eq rfl
  case c5 => decide
  case kB => exact locs rfl
  case c2 => exact rfl
  case c3 => exact rfl
  case c4 => exact rfl
  intro g' L' h' FG' F' N' B' X' T'
  dsimp only
  try k_fold
  k_steps
  all_goals (try delta Stop)
  rename Fr g' L' _ _ => F9
  rename News g' L' _ _ => N9
  have hNY : ∀ p ∈ ((pa, LO [.ref e0] n) :: (e0, LO [x0, .int wx tw, x2, x3] n0) :: Y), _ := fun p hp => (N9 p hp).1
  have hz := pzw_is hNY (e := e0) (by k_mem)
  refine srcC_pick (pzw ((pa, LO [.ref e0] n) :: (e0, LO [x0, .int wx tw, x2, x3] n0) :: Y)) (by with_unfolding_all rfl) (N9.isList (by k_mem)) F9 N9 ?g1 ?g2 ?g3 (by simp)
  case g1 =>
    intro C v s₂ m₂ E' hv hn hm hk
    refine wpAny_tests_one ?_
    rcases List.mem_singleton.mp hv with rfl
    have hle : s₂.heap.IsList e0 #[x0, .int wx tw, x2, x3] := ⟨_, hk _ _ (hNY (e0, LO [x0, .int wx tw, x2, x3] n0) (by k_mem)), rfl, _, rfl⟩
    k_steps
    all_goals (try delta Stop)
    · exact hz.symm
    · exact ⟨_, _, rfl, fun _ _ e => e⟩
  case g2 =>
    intro C v s₂ m₂ E' hv hn hm
    k_steps
    all_goals (try delta Stop)
    exact ⟨_, _, rfl, fun _ _ e => e⟩
  case g3 =>
    intro D9 n9 h9 tk9 F9 N9 l9
    clear hNY
    simp only [List.filter_cons, List.filter_nil, hz] at N9
    by_cases hw0 : wx = 0
    · simp only [hw0, beq_self_eq_true, if_true] at N9
      k_steps
      all_goals (try delta Stop)
      exact bad (.inl hw0) _ _ _ (by assumption) (fun p hp => by rename News h₀ L _ _ => N7; subst hw0; first | exact N7 p hp | exact N7 p (.tail _ hp) | exact N7 p (.tail _ (.tail _ hp)) | exact N7 p (.tail _ (.tail _ (.tail _ hp))))
    · simp only [beq_eq_false_iff_ne.mpr hw0, Bool.false_eq_true, if_false] at N9
      k_steps
      all_goals (try delta Stop)
      all_goals rename News h₀ L _ _ => N7
      all_goals first
        | exact bad (.inr (by omega)) _ _ _ (by assumption) (fun p hp => by first | exact N7 p hp | exact N7 p (.tail _ hp) | exact N7 p (.tail _ (.tail _ hp)) | exact N7 p (.tail _ (.tail _ (.tail _ hp))))
        | exact ok hw0 (by omega) (by omega) _ _ _ (by assumption) (fun p hp => by first | exact N7 p hp | exact N7 p (.tail _ hp) | exact N7 p (.tail _ (.tail _ hp)) | exact N7 p (.tail _ (.tail _ (.tail _ hp))))
        | exact lim hw0 (by omega) (by omega) _ _ _ (by assumption) (fun p hp => by first | exact N7 p hp | exact N7 p (.tail _ hp) | exact N7 p (.tail _ (.tail _ hp)) | exact N7 p (.tail _ (.tail _ (.tail _ hp))))
set_option maxHeartbeats 20000000 in
theorem due_conc (B : Below A₀ base outer h₀) (F : Fr h₀ L s.heap m) (X : (heap w.params).In h₀) (T : Top view (looseW view []) mean mg mb h₀)
    (hf : env.frame = some L) (hk : env.scope.kind = .function) (hdp : dp ≤ 445) (hun : un ≤ 485)
    (N : News h₀ L s.heap ((pa, LO [.ref e0, .ref e1] n) :: (e0, LO [x0, .int wx tw, x2, x3] n0) :: (e1, LO [y0, .int wx2 tw2, y2, y3] n1) :: Y))
    (bad : wx = 0 ∨ wx2 = 0 → ∀ h' tk' t, Fr h₀ L h' m → News h₀ L h' ((pa, LO [.ref e0, .ref e1] n) :: (e0, LO [x0, .int wx tw, x2, x3] n0) :: (e1, LO [y0, .int wx2 tw2, y2, y3] n1) :: Y) → Q (.str (Str.ofString "sort") t) { s with heap := h', toks := tk' })
    (ok : wx ≠ 0 → wx2 ≠ 0 → wx + wx2 ≤ 4096 → ∀ h' tk' t, Fr h₀ L h' m → News h₀ L h' ((pa, LO [.ref e0, .ref e1] n) :: (e0, LO [x0, .int wx tw, x2, x3] n0) :: (e1, LO [y0, .int wx2 tw2, y2, y3] n1) :: Y) → Q (.int (wx + wx2) t) { s with heap := h', toks := tk' })
    (lim : wx ≠ 0 → wx2 ≠ 0 → 4096 < wx + wx2 → ∀ h' tk' t, Fr h₀ L h' m → News h₀ L h' ((pa, LO [.ref e0, .ref e1] n) :: (e0, LO [x0, .int wx tw, x2, x3] n0) :: (e1, LO [y0, .int wx2 tw2, y2, y3] n1) :: Y) → Q (.str (Str.ofString "limit") t) { s with heap := h', toks := tk' }) :
    wpAny (model PySem.Challenge.rw_nz0152_01.row.prog w) { handled := none, depth := dp, frames := some (env :: outer), guards := gd, units := un } (call (.ref 724) [.str (Str.ofString "concat") top, .ref pa, .int 0 tlo]) Q E s := by
  refine wpAny_call ?_
  k_dflt (refine' code_def ?k1 ?k2 ?k3 ?k4 ?k5 ?kA ?kF ?kK ?k6 ?k7 ?k8 ?k9 ?kB ?_ ?c2 ?c3 ?c4 ?c5)
  case kA => exact rfl
  case kF => exact hf
  case kK => exact hk
  case k1 => exact B
  case k2 => exact F
  case k3 => exact X
  case k4 => exact N
  case k5 => exact T
  case k6 => k_is
  case k7 => k_is
  case k8 => ktr_room
  case k9 => exact BindsTo.of_eq rfl
  case c5 => decide
  case kB => exact locs rfl
  case c2 => exact rfl
  case c3 => exact rfl
  case c4 => exact rfl
  intro g' L' h' FG' F' N' B' X' T'
  dsimp only
  try k_fold
  k_steps
  all_goals (try delta Stop)
  rename Fr g' L' _ _ => F9
  rename News g' L' _ _ => N9
  have hNY : ∀ p ∈ ((pa, LO [.ref e0, .ref e1] n) :: (e0, LO [x0, .int wx tw, x2, x3] n0) :: (e1, LO [y0, .int wx2 tw2, y2, y3] n1) :: Y), _ := fun p hp => (N9 p hp).1
  have hz := pzw_is hNY (e := e0) (wx := wx) (by k_mem)
  have hz2 := pzw_is hNY (e := e1) (wx := wx2) (.tail _ (.tail _ (.head _)))
  refine srcC_pick (pzw ((pa, LO [.ref e0, .ref e1] n) :: (e0, LO [x0, .int wx tw, x2, x3] n0) :: (e1, LO [y0, .int wx2 tw2, y2, y3] n1) :: Y)) (by with_unfolding_all rfl) (N9.isList (by k_mem)) F9 N9 ?g1 ?g2 ?g3 (by simp)
  case g1 =>
    intro C v s₂ m₂ E' hv hn hm hk
    refine wpAny_tests_one ?_
    rcases List.mem_cons.mp hv with rfl | hv
    · have hle : s₂.heap.IsList e0 #[x0, .int wx tw, x2, x3] := ⟨_, hk _ _ (hNY (e0, LO [x0, .int wx tw, x2, x3] n0) (by k_mem)), rfl, _, rfl⟩
      k_steps
      all_goals (try delta Stop)
      · exact hz.symm
      · exact ⟨_, _, rfl, fun _ _ e => e⟩
    rcases List.mem_singleton.mp hv with rfl
    have hle : s₂.heap.IsList e1 #[y0, .int wx2 tw2, y2, y3] := ⟨_, hk _ _ (hNY (e1, LO [y0, .int wx2 tw2, y2, y3] n1) (.tail _ (.tail _ (.head _)))), rfl, _, rfl⟩
    k_steps
    all_goals (try delta Stop)
    · exact hz2.symm
    · exact ⟨_, _, rfl, fun _ _ e => e⟩
  case g2 =>
    intro C v s₂ m₂ E' hv hn hm
    k_steps
    all_goals (try delta Stop)
    exact ⟨_, _, rfl, fun _ _ e => e⟩
  case g3 =>
    intro D9 n9 h9 tk9 F9 N9 l9
    clear hNY
    simp only [List.filter_cons, List.filter_nil, hz, hz2] at N9
    by_cases hw0 : wx = 0
    · by_cases hw02 : wx2 = 0
      · simp only [hw0, hw02, beq_self_eq_true, if_true] at N9
        k_steps
        all_goals (try delta Stop)
        exact bad (.inl hw0) _ _ _ (by assumption) (fun p hp => by rename News h₀ L _ _ => N7; subst hw0 hw02; first | exact N7 p hp | exact N7 p (.tail _ hp) | exact N7 p (.tail _ (.tail _ hp)) | exact N7 p (.tail _ (.tail _ (.tail _ hp))))
      · simp only [hw0, beq_eq_false_iff_ne.mpr hw02, Bool.false_eq_true, if_false, beq_self_eq_true, if_true] at N9
        k_steps
        all_goals (try delta Stop)
        exact bad (.inl hw0) _ _ _ (by assumption) (fun p hp => by rename News h₀ L _ _ => N7; subst hw0; first | exact N7 p hp | exact N7 p (.tail _ hp) | exact N7 p (.tail _ (.tail _ hp)) | exact N7 p (.tail _ (.tail _ (.tail _ hp))))
    · by_cases hw02 : wx2 = 0
      · simp only [hw02, beq_eq_false_iff_ne.mpr hw0, Bool.false_eq_true, if_false, beq_self_eq_true, if_true] at N9
        k_steps
        all_goals (try delta Stop)
        exact bad (.inr hw02) _ _ _ (by assumption) (fun p hp => by rename News h₀ L _ _ => N7; subst hw02; first | exact N7 p hp | exact N7 p (.tail _ hp) | exact N7 p (.tail _ (.tail _ hp)) | exact N7 p (.tail _ (.tail _ (.tail _ hp))))
      · simp only [beq_eq_false_iff_ne.mpr hw0, beq_eq_false_iff_ne.mpr hw02, Bool.false_eq_true, if_false] at N9
        k_steps
        all_goals (try delta Stop)
        all_goals rename News h₀ L _ _ => N7
        all_goals first
          | exact ok hw0 hw02 (by omega) _ _ _ (by assumption) (fun p hp => by first | exact N7 p hp | exact N7 p (.tail _ hp) | exact N7 p (.tail _ (.tail _ hp)) | exact N7 p (.tail _ (.tail _ (.tail _ hp))))
          | exact lim hw0 hw02 (by omega) _ _ _ (by assumption) (fun p hp => by first | exact N7 p hp | exact N7 p (.tail _ hp) | exact N7 p (.tail _ (.tail _ hp)) | exact N7 p (.tail _ (.tail _ (.tail _ hp))))
end
end
section
open PySem PySem.W PySem.Calls PyProof.Rows
theorem allLt_mem {d : Addr} : ∀ {l : List (Addr × Obj)}, AllLt d l → ∀ p ∈ l, @LT.lt Nat _ p.1 d
  | [], _, _, h => nomatch h
  | _ :: _, x, p, h => by
    rcases List.mem_cons.mp h with rfl | h
    · exact x.1
    · exact allLt_mem x.2 p h
section
variable {w : World} {mean : ExcName → Option Value} {mg mb : Str → Option Value} {dp un : Nat} {gd : Option (List Code)} {env : Env} {outer : List Env} {A₀ : Around} {base h₀ : Heap} {L : Addr} {m : Str → Option Value} {s : Shared} {Q E : Value → Shared → Prop}
    {Y : List (Addr × Obj)} {pa e0 e1 dt b0 b1 : Addr} {n n0 n1 bn bn1 : Nat} {x0 x3 y0 y3 : Value} {wx wx2 high low : Int} {tw tw2 top th tlo : Tok} {bv bv1 : List Value} {bs bs1 : List Int}
set_option maxHeartbeats 20000000 in
theorem listed_extr (B : Below A₀ base outer h₀) (F : Fr h₀ L s.heap m) (X : (heap w.params).In h₀) (T : Top view (looseW view []) mean mg mb h₀)
    (hf : env.frame = some L) (hk : env.scope.kind = .function) (hdp : dp ≤ 445) (hun : un ≤ 485)
    (N : News h₀ L s.heap ((pa, LO [.ref e0] n) :: (e0, LO [x0, .int wx tw, .ref b0, x3] n0) :: (b0, LO bv bn) :: (dt, tupO [.int high th, .int low tlo]) :: Y)) (hI : IntsAre bv bs) (hl : bs.length ≤ 100) (h0 : 0 ≤ low) (h1 : low ≤ high) (h2 : high < bs.length)
    (ret : ∀ D h' tk' ys q, Fr h₀ L h' m → News h₀ L h' ((D, LO ys q) :: ((pa, LO [.ref e0] n) :: (e0, LO [x0, .int wx tw, .ref b0, x3] n0) :: (b0, LO bv bn) :: (dt, tupO [.int high th, .int low tlo]) :: Y)) → IntsAre ys (List.take (min (high + 1).toNat bs.length - low.toNat) (List.drop low.toNat bs)) → (∀ p ∈ ((pa, LO [.ref e0] n) :: (e0, LO [x0, .int wx tw, .ref b0, x3] n0) :: (b0, LO bv bn) :: (dt, tupO [.int high th, .int low tlo]) :: Y), @LT.lt Nat _ p.1 D) → Q (.ref D) { s with heap := h', toks := tk' }) :
    wpAny (model PySem.Challenge.rw_nz0152_01.row.prog w) { handled := none, depth := dp, frames := some (env :: outer), guards := gd, units := un } (call (.ref 719) [.str (Str.ofString "extract") top, .ref pa, .ref dt]) Q E s := by
  have hkl := hI.length
  refine wpAny_call ?_
  k_dflt (refine' code_def ?k1 ?k2 ?k3 ?k4 ?k5 ?kA ?kF ?kK ?k6 ?k7 ?k8 ?k9 ?kB ?_ ?c2 ?c3 ?c4 ?c5)
  case kA => exact rfl
  case kF => exact hf
  case kK => exact hk
  case k1 => exact B
  case k2 => exact F
  case k3 => exact X
  case k4 => exact N
  case k5 => exact T
  case k6 => k_is
  case k7 => k_is
  case k8 => ktr_room
  case k9 => exact BindsTo.of_eq rfl
  case c5 => decide
  case kB => exact locs rfl
  case c2 => exact rfl
  case c3 => exact rfl
  case c4 => exact rfl
  intro g' L' h' FG' F' N' B' X' T'
  dsimp only
  try k_fold
  k_steps
  all_goals (try delta Stop)
  rename News h₀ L _ _ => N9
  rename Fr h₀ L _ _ => F9
  rename IntsAre _ _ => I9
  rename _ ∧ _ => l9
  exact ret _ _ _ _ _ F9 (fun p hp => N9 p hp) I9 (allLt_mem (l := ((pa, LO [.ref e0] n) :: (e0, LO [x0, .int wx tw, .ref b0, x3] n0) :: (b0, LO bv bn) :: (dt, tupO [.int high th, .int low tlo]) :: Y)) l9)
set_option maxHeartbeats 20000000 in
theorem listed_conc (B : Below A₀ base outer h₀) (F : Fr h₀ L s.heap m) (X : (heap w.params).In h₀) (T : Top view (looseW view []) mean mg mb h₀)
    (hf : env.frame = some L) (hk : env.scope.kind = .function) (hdp : dp ≤ 445) (hun : un ≤ 485)
    (N : News h₀ L s.heap ((pa, LO [.ref e0, .ref e1] n) :: (e0, LO [x0, .int wx tw, .ref b0, x3] n0) :: (e1, LO [y0, .int wx2 tw2, .ref b1, y3] n1) :: (b0, LO bv bn) :: (b1, LO bv1 bn1) :: Y)) (hI : IntsAre bv bs) (hl : bs.length ≤ 100) (hI1 : IntsAre bv1 bs1) (hl1 : bs1.length ≤ 100)
    (ret : ∀ D h' tk' ys q, Fr h₀ L h' m → News h₀ L h' ((D, LO ys q) :: ((pa, LO [.ref e0, .ref e1] n) :: (e0, LO [x0, .int wx tw, .ref b0, x3] n0) :: (e1, LO [y0, .int wx2 tw2, .ref b1, y3] n1) :: (b0, LO bv bn) :: (b1, LO bv1 bn1) :: Y)) → IntsAre ys (bs1 ++ bs) → (∀ p ∈ ((pa, LO [.ref e0, .ref e1] n) :: (e0, LO [x0, .int wx tw, .ref b0, x3] n0) :: (e1, LO [y0, .int wx2 tw2, .ref b1, y3] n1) :: (b0, LO bv bn) :: (b1, LO bv1 bn1) :: Y), @LT.lt Nat _ p.1 D) → Q (.ref D) { s with heap := h', toks := tk' }) :
    wpAny (model PySem.Challenge.rw_nz0152_01.row.prog w) { handled := none, depth := dp, frames := some (env :: outer), guards := gd, units := un } (call (.ref 719) [.str (Str.ofString "concat") top, .ref pa, .int 0 tlo]) Q E s := by
  have hkl := hI.length
  have hkl1 := hI1.length
  refine wpAny_call ?_
  k_dflt (refine' code_def ?k1 ?k2 ?k3 ?k4 ?k5 ?kA ?kF ?kK ?k6 ?k7 ?k8 ?k9 ?kB ?_ ?c2 ?c3 ?c4 ?c5)
  case kA => exact rfl
  case kF => exact hf
  case kK => exact hk
  case k1 => exact B
  case k2 => exact F
  case k3 => exact X
  case k4 => exact N
  case k5 => exact T
  case k6 => k_is
  case k7 => k_is
  case k8 => ktr_room
  case k9 => exact BindsTo.of_eq rfl
  case c5 => decide
  case kB => exact locs rfl
  case c2 => exact rfl
  case c3 => exact rfl
  case c4 => exact rfl
  intro g' L' h' FG' F' N' B' X' T'
  dsimp only
  try k_fold
  k_steps
  all_goals (try delta Stop)
  rename News h₀ L _ _ => N9
  rename Fr h₀ L _ _ => F9
  rename IntsAre _ _ => I9
  rename _ ∧ _ => l9
  exact ret _ _ _ _ _ F9 (fun p hp => N9 p hp) I9 (allLt_mem (l := ((pa, LO [.ref e0, .ref e1] n) :: (e0, LO [x0, .int wx tw, .ref b0, x3] n0) :: (e1, LO [y0, .int wx2 tw2, .ref b1, y3] n1) :: (b0, LO bv bn) :: (b1, LO bv1 bn1) :: Y)) l9)
set_option maxHeartbeats 20000000 in
theorem listed_z (B : Below A₀ base outer h₀) (F : Fr h₀ L s.heap m) (X : (heap w.params).In h₀) (T : Top view (looseW view []) mean mg mb h₀)
    (hf : env.frame = some L) (hk : env.scope.kind = .function) (hdp : dp ≤ 445) (hun : un ≤ 485)
    (N : News h₀ L s.heap ((pa, LO [.ref e0] n) :: (e0, LO [x0, .int wx tw, .ref b0, x3] n0) :: (b0, LO bv bn) :: Y)) (hI : IntsAre bv bs) (hl : bs.length ≤ 100) (h0 : 0 ≤ low) (h1 : low ≤ 100)
    (ret : ∀ D h' tk' ys q, Fr h₀ L h' m → News h₀ L h' ((D, LO ys q) :: ((pa, LO [.ref e0] n) :: (e0, LO [x0, .int wx tw, .ref b0, x3] n0) :: (b0, LO bv bn) :: Y)) → IntsAre ys (bs ++ (List.replicate low.toNat [0]).flatten) → (∀ p ∈ ((pa, LO [.ref e0] n) :: (e0, LO [x0, .int wx tw, .ref b0, x3] n0) :: (b0, LO bv bn) :: Y), @LT.lt Nat _ p.1 D) → Q (.ref D) { s with heap := h', toks := tk' }) :
    wpAny (model PySem.Challenge.rw_nz0152_01.row.prog w) { handled := none, depth := dp, frames := some (env :: outer), guards := gd, units := un } (call (.ref 719) [.str (Str.ofString "zero_extend") top, .ref pa, .int low tlo]) Q E s := by
  have hkl := hI.length
  refine wpAny_call ?_
  k_dflt (refine' code_def ?k1 ?k2 ?k3 ?k4 ?k5 ?kA ?kF ?kK ?k6 ?k7 ?k8 ?k9 ?kB ?_ ?c2 ?c3 ?c4 ?c5)
  case kA => exact rfl
  case kF => exact hf
  case kK => exact hk
  case k1 => exact B
  case k2 => exact F
  case k3 => exact X
  case k4 => exact N
  case k5 => exact T
  case k6 => k_is
  case k7 => k_is
  case k8 => ktr_room
  case k9 => exact BindsTo.of_eq rfl
  case c5 => decide
  case kB => exact locs rfl
  case c2 => exact rfl
  case c3 => exact rfl
  case c4 => exact rfl
  intro g' L' h' FG' F' N' B' X' T'
  dsimp only
  try k_fold
  k_steps
  all_goals (try delta Stop)
  rename News h₀ L _ _ => N9
  rename Fr h₀ L _ _ => F9
  rename IntsAre _ _ => I9
  rename _ ∧ _ => l9
  exact ret _ _ _ _ _ F9 (fun p hp => N9 p ((List.mem_cons.mp hp).elim (fun h => h ▸ .head _) (fun h => .tail _ (.tail _ (.tail _ h))))) I9 (allLt_mem (l := ((pa, LO [.ref e0] n) :: (e0, LO [x0, .int wx tw, .ref b0, x3] n0) :: (b0, LO bv bn) :: Y)) l9.2.2)
set_option maxHeartbeats 20000000 in
theorem listed_s (B : Below A₀ base outer h₀) (F : Fr h₀ L s.heap m) (X : (heap w.params).In h₀) (T : Top view (looseW view []) mean mg mb h₀)
    (hf : env.frame = some L) (hk : env.scope.kind = .function) (hdp : dp ≤ 445) (hun : un ≤ 485)
    (N : News h₀ L s.heap ((pa, LO [.ref e0] n) :: (e0, LO [x0, .int wx tw, .ref b0, x3] n0) :: (b0, LO bv bn) :: Y)) (hI : IntsAre bv bs) (hl : bs.length ≤ 100) (h0 : 0 ≤ low) (h1 : low ≤ 100) (h2 : 0 < bs.length)
    (ret : ∀ D h' tk' ys q, Fr h₀ L h' m → News h₀ L h' ((D, LO ys q) :: ((pa, LO [.ref e0] n) :: (e0, LO [x0, .int wx tw, .ref b0, x3] n0) :: (b0, LO bv bn) :: Y)) → IntsAre ys (bs ++ (List.replicate low.toNat [bs.getD (-1 + (bs.length : Int)).toNat 0]).flatten) → (∀ p ∈ ((pa, LO [.ref e0] n) :: (e0, LO [x0, .int wx tw, .ref b0, x3] n0) :: (b0, LO bv bn) :: Y), @LT.lt Nat _ p.1 D) → Q (.ref D) { s with heap := h', toks := tk' }) :
    wpAny (model PySem.Challenge.rw_nz0152_01.row.prog w) { handled := none, depth := dp, frames := some (env :: outer), guards := gd, units := un } (call (.ref 719) [.str (Str.ofString "sign_extend") top, .ref pa, .int low tlo]) Q E s := by
  have hkl := hI.length
  refine wpAny_call ?_
  k_dflt (refine' code_def ?k1 ?k2 ?k3 ?k4 ?k5 ?kA ?kF ?kK ?k6 ?k7 ?k8 ?k9 ?kB ?_ ?c2 ?c3 ?c4 ?c5)
  case kA => exact rfl
  case kF => exact hf
  case kK => exact hk
  case k1 => exact B
  case k2 => exact F
  case k3 => exact X
  case k4 => exact N
  case k5 => exact T
  case k6 => k_is
  case k7 => k_is
  case k8 => ktr_room
  case k9 => exact BindsTo.of_eq rfl
  case c5 => decide
  case kB => exact locs rfl
  case c2 => exact rfl
  case c3 => exact rfl
  case c4 => exact rfl
  intro g' L' h' FG' F' N' B' X' T'
  dsimp only
  try k_fold
  k_steps
  all_goals (try delta Stop)
  rename News h₀ L _ _ => N9
  rename Fr h₀ L _ _ => F9
  rename IntsAre _ _ => I9
  rename _ ∧ _ => l9
  exact ret _ _ _ _ _ F9 (fun p hp => N9 p ((List.mem_cons.mp hp).elim (fun h => h ▸ .head _) (fun h => .tail _ (.tail _ (.tail _ h))))) I9 (allLt_mem (l := ((pa, LO [.ref e0] n) :: (e0, LO [x0, .int wx tw, .ref b0, x3] n0) :: (b0, LO bv bn) :: Y)) l9.2.2)
end
end
section
open PySem PySem.W PySem.Calls PyProof.Rows
set_option hygiene false in
local macro_rules | `(tactic| walk_at "call ref") => `(tactic| ((with_reducible first | refine at_123 ?_ | refine at_130 ?_ | refine at_137 ?_ | refine at_144 ?_ | refine at_151 ?_); walk_at "in place"))
section
variable {w : World} {mean : ExcName → Option Value} {mg mb : Str → Option Value} {dp un : Nat} {gd : Option (List Code)} {env : Env} {outer : List Env} {A₀ : Around} {base h₀ : Heap} {L : Addr} {m : Str → Option Value} {s : Shared} {Q E : Value → Shared → Prop}
    {Y : List (Addr × Obj)} {pa e0 e1 dt : Addr} {n n0 n1 : Nat} {x0 x2 y0 y2 : Value} {wx wx2 high low x y wd : Int} {tw tw2 top th tlo tx ty twd : Tok}
set_option maxHeartbeats 20000000 in
theorem reck_extr (B : Below A₀ base outer h₀) (F : Fr h₀ L s.heap m) (X : (heap w.params).In h₀) (T : Top view (looseW view []) mean mg mb h₀)
    (hf : env.frame = some L) (hk : env.scope.kind = .function) (hdp : dp ≤ 440) (hun : un ≤ 470)
    (N : News h₀ L s.heap ((pa, LO [.ref e0] n) :: (e0, LO [x0, .int wx tw, x2, .int x tx] n0) :: (dt, tupO [.int high th, .int low tlo]) :: Y)) (h0 : 0 ≤ low) (h1 : low ≤ high) (h2 : high < 25) (hx : 0 ≤ x) (hx2 : x < 2 ^ 25)
    (ret : ∀ h' tk' t, Fr h₀ L h' m → News h₀ L h' ((pa, LO [.ref e0] n) :: (e0, LO [x0, .int wx tw, x2, .int x tx] n0) :: (dt, tupO [.int high th, .int low tlo]) :: Y) → Q (.int (Builtin.bitAnd (x.fdiv (2 ^ low.toNat)) (1 * 2 ^ (high - low + 1).toNat - 1)) t) { s with heap := h', toks := tk' }) :
    wpAny (model PySem.Challenge.rw_nz0152_01.row.prog w) { handled := none, depth := dp, frames := some (env :: outer), guards := gd, units := un } (call (.ref 712) [.str (Str.ofString "extract") top, .ref pa, .ref dt, .int wd twd]) Q E s := by
  refine wpAny_call ?_
  k_dflt (refine' code_def ?k1 ?k2 ?k3 ?k4 ?k5 ?kA ?kF ?kK ?k6 ?k7 ?k8 ?k9 ?kB ?_ ?c2 ?c3 ?c4 ?c5)
  case kA => exact rfl
  case kF => exact hf
  case kK => exact hk
  case k1 => exact B
  case k2 => exact F
  case k3 => exact X
  case k4 => exact N
  case k5 => exact T
  case k6 => k_is
  case k7 => k_is
  case k8 => ktr_room
  case k9 => exact BindsTo.of_eq rfl
  case c5 => decide
  case kB => exact locs rfl
  case c2 => exact rfl
  case c3 => exact rfl
  case c4 => exact rfl
  intro g' L' h' FG' F' N' B' X' T'
  dsimp only
  try k_fold
  k_steps
  all_goals (try delta Stop)
  exact ret _ _ _ (by assumption) (by assumption)
set_option maxHeartbeats 20000000 in
theorem reck_conc (B : Below A₀ base outer h₀) (F : Fr h₀ L s.heap m) (X : (heap w.params).In h₀) (T : Top view (looseW view []) mean mg mb h₀)
    (hf : env.frame = some L) (hk : env.scope.kind = .function) (hdp : dp ≤ 440) (hun : un ≤ 470)
    (N : News h₀ L s.heap ((pa, LO [.ref e0, .ref e1] n) :: (e0, LO [x0, .int wx tw, x2, .int x tx] n0) :: (e1, LO [y0, .int wx2 tw2, y2, .int y ty] n1) :: Y)) (h0 : 0 ≤ wx2) (h1 : wx2 < 25) (hx : 0 ≤ x) (hx2 : x < 2 ^ 25) (hy : 0 ≤ y) (hy2 : y < 2 ^ 25)
    (ret : ∀ h' tk' t, Fr h₀ L h' m → News h₀ L h' ((pa, LO [.ref e0, .ref e1] n) :: (e0, LO [x0, .int wx tw, x2, .int x tx] n0) :: (e1, LO [y0, .int wx2 tw2, y2, .int y ty] n1) :: Y) → Q (.int (Builtin.bitOr (x * 2 ^ wx2.toNat) y) t) { s with heap := h', toks := tk' }) :
    wpAny (model PySem.Challenge.rw_nz0152_01.row.prog w) { handled := none, depth := dp, frames := some (env :: outer), guards := gd, units := un } (call (.ref 712) [.str (Str.ofString "concat") top, .ref pa, .int 0 tlo, .int wd twd]) Q E s := by
  refine wpAny_call ?_
  k_dflt (refine' code_def ?k1 ?k2 ?k3 ?k4 ?k5 ?kA ?kF ?kK ?k6 ?k7 ?k8 ?k9 ?kB ?_ ?c2 ?c3 ?c4 ?c5)
  case kA => exact rfl
  case kF => exact hf
  case kK => exact hk
  case k1 => exact B
  case k2 => exact F
  case k3 => exact X
  case k4 => exact N
  case k5 => exact T
  case k6 => k_is
  case k7 => k_is
  case k8 => ktr_room
  case k9 => exact BindsTo.of_eq rfl
  case c5 => decide
  case kB => exact locs rfl
  case c2 => exact rfl
  case c3 => exact rfl
  case c4 => exact rfl
  intro g' L' h' FG' F' N' B' X' T'
  dsimp only
  try k_fold
  k_steps
  all_goals (try delta Stop)
  exact ret _ _ _ (by assumption) (by assumption)
set_option maxHeartbeats 20000000 in
theorem reck_z (B : Below A₀ base outer h₀) (F : Fr h₀ L s.heap m) (X : (heap w.params).In h₀) (T : Top view (looseW view []) mean mg mb h₀)
    (hf : env.frame = some L) (hk : env.scope.kind = .function) (hdp : dp ≤ 440) (hun : un ≤ 470)
    (N : News h₀ L s.heap ((pa, LO [.ref e0] n) :: (e0, LO [x0, .int wx tw, x2, .int x tx] n0) :: Y))
    (ret : ∀ h' tk' t, Fr h₀ L h' m → News h₀ L h' ((pa, LO [.ref e0] n) :: (e0, LO [x0, .int wx tw, x2, .int x tx] n0) :: Y) → Q (.int (x) t) { s with heap := h', toks := tk' }) :
    wpAny (model PySem.Challenge.rw_nz0152_01.row.prog w) { handled := none, depth := dp, frames := some (env :: outer), guards := gd, units := un } (call (.ref 712) [.str (Str.ofString "zero_extend") top, .ref pa, .int low tlo, .int wd twd]) Q E s := by
  refine wpAny_call ?_
  k_dflt (refine' code_def ?k1 ?k2 ?k3 ?k4 ?k5 ?kA ?kF ?kK ?k6 ?k7 ?k8 ?k9 ?kB ?_ ?c2 ?c3 ?c4 ?c5)
  case kA => exact rfl
  case kF => exact hf
  case kK => exact hk
  case k1 => exact B
  case k2 => exact F
  case k3 => exact X
  case k4 => exact N
  case k5 => exact T
  case k6 => k_is
  case k7 => k_is
  case k8 => ktr_room
  case k9 => exact BindsTo.of_eq rfl
  case c5 => decide
  case kB => exact locs rfl
  case c2 => exact rfl
  case c3 => exact rfl
  case c4 => exact rfl
  intro g' L' h' FG' F' N' B' X' T'
  dsimp only
  try k_fold
  k_steps
  all_goals (try delta Stop)
  exact ret _ _ _ (by assumption) (by assumption)
set_option maxHeartbeats 20000000 in
theorem reck_s (B : Below A₀ base outer h₀) (F : Fr h₀ L s.heap m) (X : (heap w.params).In h₀) (T : Top view (looseW view []) mean mg mb h₀)
    (hf : env.frame = some L) (hk : env.scope.kind = .function) (hdp : dp ≤ 440) (hun : un ≤ 470)
    (N : News h₀ L s.heap ((pa, LO [.ref e0] n) :: (e0, LO [x0, .int wx tw, x2, .int x tx] n0) :: Y)) (h0 : 0 ≤ low) (h1 : wx + low < 25) (h2 : 1 ≤ wx) (hx : 0 ≤ x) (hx2 : x < 2 ^ 25)
    (ret1 : x.fdiv (2 ^ (wx - 1).toNat) = 1 → ∀ h' tk' t, Fr h₀ L h' m → News h₀ L h' ((pa, LO [.ref e0] n) :: (e0, LO [x0, .int wx tw, x2, .int x tx] n0) :: Y) → Q (.int (Builtin.bitAnd (x - 1 * 2 ^ wx.toNat) (1 * 2 ^ (wx + low).toNat - 1)) t) { s with heap := h', toks := tk' })
    (ret2 : x.fdiv (2 ^ (wx - 1).toNat) ≠ 1 → ∀ h' tk' t, Fr h₀ L h' m → News h₀ L h' ((pa, LO [.ref e0] n) :: (e0, LO [x0, .int wx tw, x2, .int x tx] n0) :: Y) → Q (.int (Builtin.bitAnd x (1 * 2 ^ (wx + low).toNat - 1)) t) { s with heap := h', toks := tk' }) :
    wpAny (model PySem.Challenge.rw_nz0152_01.row.prog w) { handled := none, depth := dp, frames := some (env :: outer), guards := gd, units := un } (call (.ref 712) [.str (Str.ofString "sign_extend") top, .ref pa, .int low tlo, .int wd twd]) Q E s := by
  refine wpAny_call ?_
  k_dflt (refine' code_def ?k1 ?k2 ?k3 ?k4 ?k5 ?kA ?kF ?kK ?k6 ?k7 ?k8 ?k9 ?kB ?_ ?c2 ?c3 ?c4 ?c5)
  case kA => exact rfl
  case kF => exact hf
  case kK => exact hk
  case k1 => exact B
  case k2 => exact F
  case k3 => exact X
  case k4 => exact N
  case k5 => exact T
  case k6 => k_is
  case k7 => k_is
  case k8 => ktr_room
  case k9 => exact BindsTo.of_eq rfl
  case c5 => decide
  case kB => exact locs rfl
  case c2 => exact rfl
  case c3 => exact rfl
  case c4 => exact rfl
  intro g' L' h' FG' F' N' B' X' T'
  dsimp only
  try k_fold
  k_steps
  all_goals (try delta Stop)
  · exact ret1 (by first | assumption | simp_all) _ _ _ (by assumption) (by assumption)
  · exact ret2 (by first | assumption | simp_all) _ _ _ (by assumption) (by assumption)
end
end
section
open PySem PySem.W PySem.Calls PyProof.Rows
set_option hygiene false in
local macro_rules | `(tactic| walk_at "compareOp In ref ref") => `(tactic| (k_here; refine stop_in ?_))
set_option hygiene false in
local macro_rules | `(tactic| walk_at "compareOp NotEq ref ref") => `(tactic| (k_here; refine stop_in ?_))
set_option hygiene false in
local macro_rules | `(tactic| walk_at "setItem ref ref int") => `(tactic| (k_here; refine stop_in ?_))
set_option hygiene false in
local macro_rules | `(tactic| walk_at "subscriptTail Name Name ref ref") => `(tactic| (k_here; refine stop_in ?_))
section
variable {w : World} {mean : ExcName → Option Value} {mg mb : Str → Option Value} {dp un : Nat} {gd : Option (List Code)} {env : Env} {outer : List Env} {A₀ : Around} {base h₀ : Heap} {L : Addr} {m : Str → Option Value} {s : Shared} {Q E : Value → Shared → Prop}
    {c : BA} {b : BSt} {Z Zk : List (Addr × Obj)} {ts : List Tm} {sw : List Int} {wd kn ky en pl : Addr} {ow okn : Obj} {kv ev : List Value} {n : Nat} {ks : List (List EK × Addr × Value)} {op : Str} {al : List Int} {dk : EK} {r bf : Int} {tr tr2 tbf : Tok} {q : Addr}
noncomputable abbrev keptLed (P : Params) (c : BA) (b : BSt) (Z : List (Addr × Obj)) (kn wd ky en : Addr) (okn ow : Obj) (kv ev : List Value) (n : Nat) : List (Addr × Obj) := (kn, okn) :: bankLed P c b ((wd, ow) :: (ky, tupO kv) :: (en, LO ev n) :: Z)
set_option maxHeartbeats 20000000 in
theorem kept_old (B : Below A₀ base outer h₀) (F : Fr h₀ L s.heap m) (X : (heap w.params).In h₀) (T : Top view (looseW view []) mean mg mb h₀)
    (hf : env.frame = some L) (hk : env.scope.kind = .function) (hdp : dp ≤ 440) (hun : un ≤ 470)
    (N : News h₀ L s.heap (keptLed w.params c b Z kn wd ky en okn ow kv ev n)) (O : c.Ord) (hwd : ow.IsDictOf (PySem.strKind PySem.Challenge.rw_nz0152_01.row.prog w) (worldKvs c pl kn bf (.int r tr) tbf))
    (NU : NuIs PySem.Challenge.rw_nz0152_01.row.prog w Zk okn ks) (hZk : ∀ p ∈ Zk, p ∈ Z) (lo : (kn == sysModules) = false) (hky : NKin ((ky, tupO kv) :: Z) [.s op, .t al, dk] ky) (hat : atKey ks [.s op, .t al, dk] = some (q, .int r tr2))
    (hbf : bf = b.vo.length - 1) (hvo : b.vo.length ≤ 900)
    (ret : ∀ h' tk', Fr h₀ L h' m → News h₀ L h' (keptLed w.params c b Z kn wd ky en okn ow kv ev n) → Q (.bool true) { s with heap := h', toks := tk' }) :
    wpAny (model PySem.Challenge.rw_nz0152_01.row.prog w) { handled := none, depth := dp, frames := some (env :: outer), guards := gd, units := un } (call (.ref 705) [.ref wd, .ref ky, .ref en]) Q E s := by
  refine wpAny_call ?_
  k_dflt (refine' code_def ?k1 ?k2 ?k3 ?k4 ?k5 ?kA ?kF ?kK ?k6 ?k7 ?k8 ?k9 ?kB ?_ ?c2 ?c3 ?c4 ?c5)
  case kA => exact rfl
  case kF => exact hf
  case kK => exact hk
  case k1 => exact B
  case k2 => exact F
  case k3 => exact X
  case k4 => exact N
  case k5 => exact T
  case k6 => k_is
  case k7 => k_is
  case k8 => ktr_room
  case k9 => exact BindsTo.of_eq rfl
  case c5 => decide
  case kB => exact locs rfl
  case c2 => exact rfl
  case c3 => exact rfl
  case c4 => exact rfl
  intro g' L' h' FG' F' N' B' X' T'
  dsimp only
  dsimp only [keptLed, bankLed] at N'
  try k_fold
  k_steps
  all_goals (try delta Stop)
  rename News g' L' _ _ => N99
  have N9 : News g' L' _ (keptLed w.params c b Z kn wd ky en okn ow kv ev n) := fun p hp => N99 p (.tail _ (.tail _ hp))
  clear N99
  dsimp only [keptLed, bankLed] at N9
  have sub : ∀ p ∈ (ky, tupO kv) :: Z, p ∈ keptLed w.params c b Z kn wd ky en okn ow kv ev n := fun p hp => by
    rcases List.mem_cons.mp hp with rfl | hp
    · exact .tail _ (.tail _ (.tail _ (.tail _ (.tail _ (.tail _ (.tail _ (.tail _ (.tail _ (.tail _ (.tail _ (.tail _ (.head _))))))))))))
    · exact .tail _ (.tail _ (.tail _ (.tail _ (.tail _ (.tail _ (.tail _ (.tail _ (.tail _ (.tail _ (.tail _ (.tail _ (.tail _ (.tail _ hp)))))))))))))
  refine nu_in (ks := [.s op, .t al, dk]) ?hu N9 (.head _) NU (fun p hp => sub p (.tail _ (hZk p hp))) (hky.mono sub) lo fun tk9 => ?_
  case hu => ktr_units
  rw [hat]
  dsimp only [Option.isSome_some]
  k_steps
  all_goals (try delta Stop)
  rename News g' L' _ _ => N8
  refine nu_item (ks := [.s op, .t al, dk]) ?hu N8 (.head _) NU (fun p hp => sub p (.tail _ (hZk p hp))) (hky.mono sub) hat fun tk9 => ?_
  case hu => ktr_units
  k_steps
  all_goals (try delta Stop)
  · have e : ((b.vo.length : Int) - 1 == bf) = true := by simp [hbf]
    rw [e]
    rename News h₀ L _ _ => N7
    exact ret _ _ (by assumption) N7
  · exfalso; simp_all
theorem ne_nk {prog : Program} {w : World} {A : Around} {E : Value → Shared → Prop} {s : Shared} {h₀ : Heap} {L x y : Addr} {news : List (Addr × Obj)} {ks : List EK} {Q : Value → Shared → Prop} (hu : A.units + 64 < cLine) (N : News h₀ L s.heap news) (hx : NKin news ks x) (hy : NKin news ks y) (h : Q (.bool false) s) :
    wpAny (model prog w) A (compareOp .NotEq (.ref x) (.ref y)) Q E s := by
  have hN : ∀ p ∈ news, s.heap.get? p.1 = some p.2 := fun p hp => (N p hp).1
  have hx' := hx.at hN
  have hy' := hy.at hN
  have := depth_n ks
  exact SeqAt.compareNe_reads (nk_reads hx') (nk_reads hy') (lay_n hx') (lay_n hy') (by simp only [Nat.min_self]; omega) (by rw [eqv_n]; simpa using h)
set_option maxHeartbeats 20000000 in
theorem kept_new (B : Below A₀ base outer h₀) (F : Fr h₀ L s.heap m) (X : (heap w.params).In h₀) (T : Top view (looseW view []) mean mg mb h₀)
    (hf : env.frame = some L) (hk : env.scope.kind = .function) (hdp : dp ≤ 440) (hun : un ≤ 470) {dv9 v0 v2 v3 : Value} {a9 : Addr} {so due : Int} {t1 t2 t3 t4 t5 : Tok}
    (N : News h₀ L s.heap (keptLed w.params c b Z kn wd ky en okn ow kv [v0, .int due t5, v2, v3] n)) (O : c.Ord) (hwd : ow.IsDictOf (PySem.strKind PySem.Challenge.rw_nz0152_01.row.prog w) (worldKvs c pl kn bf (.int r tr) tbf))
    (NU : NuIs PySem.Challenge.rw_nz0152_01.row.prog w Zk okn ks) (hZk : ∀ p ∈ Zk, p ∈ Z) (lo : (kn == sysModules) = false) (hky : NKin ((ky, tupO kv) :: Z) [.s op, .t al, dk] ky) (hnone : atKey ks [.s op, .t al, dk] = none)
    (hoff : ∀ p ∈ bankLed w.params c b ((wd, ow) :: (ky, tupO kv) :: (en, LO [v0, .int due t5, v2, v3] n) :: Z), p.1 ≠ kn) (hks : ks.length ≤ 900)
    (hvo : b.vo.length ≤ 900) (hr : r = b.vo.length - 1) (hr1 : 1 ≤ r) (hbf : r = bf + 1) (hop : PyData.strOk op = true)
    (e1 : b.vo[r.toNat]? = some (.str op t1)) (e2 : b.va[r.toNat]? = some (.ref a9)) (e3 : EKin Z (.t al) (.ref a9)) (e4 : b.vd[r.toNat]? = some dv9) (e5 : EKin Z dk dv9) (e6 : b.vs[r.toNat]? = some (.int so t2)) (e7 : b.vw[so.toNat]? = some (.int due t3)) (e8 : b.vn[so.toNat]? = some (.str (bvName due) t4))
    (hso : 0 ≤ so) (hso2 : so < 100000) (hdue : 0 ≤ due) (hdue2 : due ≤ 4096)
    (ret : ∀ h' tk' okn', Fr h₀ L h' m → News h₀ L h' (keptLed w.params c b Z kn wd ky en okn' ow kv [v0, .int due t5, v2, v3] n) → NuIs PySem.Challenge.rw_nz0152_01.row.prog w ((ky, tupO kv) :: Z) okn' (ks ++ [([.s op, .t al, dk], ky, .int r tr)]) → Q (.bool true) { s with heap := h', toks := tk' }) :
    wpAny (model PySem.Challenge.rw_nz0152_01.row.prog w) { handled := none, depth := dp, frames := some (env :: outer), guards := gd, units := un } (call (.ref 705) [.ref wd, .ref ky, .ref en]) Q E s := by
  refine wpAny_call ?_
  k_dflt (refine' code_def ?k1 ?k2 ?k3 ?k4 ?k5 ?kA ?kF ?kK ?k6 ?k7 ?k8 ?k9 ?kB ?_ ?c2 ?c3 ?c4 ?c5)
  case kA => exact rfl
  case kF => exact hf
  case kK => exact hk
  case k1 => exact B
  case k2 => exact F
  case k3 => exact X
  case k4 => exact N
  case k5 => exact T
  case k6 => k_is
  case k7 => k_is
  case k8 => ktr_room
  case k9 => exact BindsTo.of_eq rfl
  case c5 => decide
  case kB => exact locs rfl
  case c2 => exact rfl
  case c3 => exact rfl
  case c4 => exact rfl
  intro g' L' h' FG' F' N' B' X' T'
  dsimp only
  dsimp only [keptLed, bankLed] at N'
  try k_fold
  k_steps
  all_goals (try delta Stop)
  rename News g' L' _ _ => N99
  have N9 : News g' L' _ (keptLed w.params c b Z kn wd ky en okn ow kv [v0, .int due t5, v2, v3] n) := fun p hp => N99 p (.tail _ (.tail _ hp))
  clear N99
  dsimp only [keptLed, bankLed] at N9
  have sub : ∀ p ∈ (ky, tupO kv) :: Z, p ∈ bankLed w.params c b ((wd, ow) :: (ky, tupO kv) :: (en, LO [v0, .int due t5, v2, v3] n) :: Z) := fun p hp => by
    rcases List.mem_cons.mp hp with rfl | hp
    · exact (.tail _ (.tail _ (.tail _ (.tail _ (.tail _ (.tail _ (.tail _ (.tail _ (.tail _ (.tail _ (.tail _ (.head _))))))))))))
    · exact (.tail _ (.tail _ (.tail _ (.tail _ (.tail _ (.tail _ (.tail _ (.tail _ (.tail _ (.tail _ (.tail _ (.tail _ (.tail _ hp)))))))))))))
  have hr0 : 0 ≤ r := Int.le_trans (by decide) hr1
  have hr9 : r < 100000 := rl9 hr hvo
  refine nu_in (ks := [.s op, .t al, dk]) ?hu N9 (.head _) NU (fun p hp => .tail _ (sub p (.tail _ (hZk p hp)))) (hky.mono fun p hp => .tail _ (sub p hp)) lo fun tk9 => ?_
  case hu => ktr_units
  rw [hnone]
  dsimp only [Option.isSome_none]
  k_steps
  all_goals (try delta Stop)
  rename News g' L' _ _ => N8
  rename Fr g' L' _ _ => F8
  refine nu_set (pre := []) (post := bankLed w.params c b ((wd, ow) :: (ky, tupO kv) :: (en, LO [v0, .int due t5, v2, v3] n) :: Z)) (Y := (ky, tupO kv) :: Z) (ks := [.s op, .t al, dk]) ?hu F8 N8 (fun p hp => nomatch hp) hoff NU (fun p hp => .tail _ (hZk p hp)) (fun p hp => sub p hp) hky (by omega) fun h5 o5 tk5 F5 N5 NU5 => ?_
  case hu => ktr_units
  rw [storedH_new hnone] at NU5
  simp only [List.nil_append] at N5
  dsimp only [bankLed] at N5
  dsimp only
  clear N8 F8
  k_steps
  all_goals (try delta Stop)
  · first | contradiction | (exfalso; omega)
  · first | contradiction | (exfalso; omega)
  rename News g' L' _ _ => N8
  refine ne_nk (ks := [.s op, .t al, dk]) ?hu N8 ⟨[.str op t1, .ref a9, dv9], by k_mem, .cons ⟨_, rfl, hop⟩ (.cons (e3.mono ?s1) (.cons (e5.mono ?s2) .nil))⟩ (hky.mono ?s3) ?_
  case hu => ktr_units
  case s1 => intro p hp; exact .tail _ (.tail _ (sub p (.tail _ hp)))
  case s2 => intro p hp; exact .tail _ (.tail _ (sub p (.tail _ hp)))
  case s3 => intro p hp; exact .tail _ (.tail _ (sub p hp))
  k_steps
  all_goals (try delta Stop)
  · exfalso; simp_all
  have en9 : bvName due = Str.ofString "(_ BitVec " ++ Str.ofString (toString due) ++ Str.ofString ")" := by
    show (Str.empty ++ Str.ofString "(_ BitVec ") ++ _ ++ _ = _
    rw [show (Str.empty ++ Str.ofString "(_ BitVec ") = Str.ofString "(_ BitVec " by decide]
  rw [en9, beq_self_eq_true]
  rename News h₀ L _ _ => N7
  exact ret _ _ _ (by assumption) (fun p hp => by first | exact N7 p hp | exact N7 p (.tail _ hp) | exact N7 p (.tail _ (.tail _ hp))) NU5
end
end
section
open PySem PySem.W
/-- what the bits are worth, the lowest first -/
noncomputable def worth : List Int → Int
  | [] => 0
  | b :: r => b + 2 * worth r
noncomputable def Bits (bs : List Int) : Prop := ∀ b ∈ bs, b = 0 ∨ b = 1
theorem worth_range : ∀ {bs : List Int}, Bits bs → 0 ≤ worth bs ∧ worth bs < 2 ^ bs.length
  | [], _ => by simp [worth]
  | b :: r, h => by
    have := worth_range (bs := r) fun x hx => h x (.tail _ hx)
    have hb := h b (.head _)
    simp only [worth, List.length_cons, Int.pow_succ]
    omega
theorem worth_append : ∀ (a b : List Int), worth (a ++ b) = worth a + 2 ^ a.length * worth b
  | [], b => by simp [worth]
  | x :: r, b => by
    simp only [List.cons_append, worth, worth_append r b, List.length_cons, Int.pow_succ]
    rw [Int.mul_add, Int.mul_comm (2 ^ r.length) 2, Int.mul_assoc]
    exact (Int.add_assoc _ _ _).symm
theorem Bits.append {a b : List Int} (x : Bits a) (y : Bits b) : Bits (a ++ b) := fun z hz => (List.mem_append.mp hz).elim (x z) (y z)
theorem Bits.take {a : List Int} (x : Bits a) (n : Nat) : Bits (a.take n) := fun z hz => x z (List.mem_of_mem_take hz)
theorem Bits.drop {a : List Int} (x : Bits a) (n : Nat) : Bits (a.drop n) := fun z hz => x z (List.mem_of_mem_drop hz)
theorem Bits.rep {v : Int} (h : v = 0 ∨ v = 1) (n : Nat) : Bits (List.replicate n v) := fun z hz => by rw [(List.mem_replicate.mp hz).2]; exact h
theorem pp (n : Nat) : (0 : Int) < 2 ^ n := Int.pow_pos (by decide)
theorem worth_cut {bs : List Int} (h : Bits bs) (n : Nat) (hn : n ≤ bs.length) : worth (bs.drop n) = worth bs / 2 ^ n ∧ worth (bs.take n) = worth bs % 2 ^ n := by
  have e := worth_append (bs.take n) (bs.drop n)
  rw [List.take_append_drop, List.length_take, Nat.min_eq_left hn] at e
  have r := worth_range (h.take n)
  rw [List.length_take, Nat.min_eq_left hn] at r
  constructor
  · rw [e, Int.add_mul_ediv_left _ _ (Int.ne_of_gt (pp n)), Int.ediv_eq_zero_of_lt r.1 r.2, Int.zero_add]
  · rw [e, Int.add_mul_emod_self_left, Int.emod_eq_of_lt r.1 r.2]
theorem worth_rep0 (n : Nat) : worth (List.replicate n 0) = 0 := by
  induction n with
  | zero => rfl
  | succ n ih => simp [List.replicate_succ, worth, ih]
theorem worth_rep1 (n : Nat) : worth (List.replicate n 1) = 2 ^ n - 1 := by
  induction n with
  | zero => rfl
  | succ n ih => rw [List.replicate_succ, worth, ih, Int.pow_succ]; omega
theorem flat_rep (n : Nat) (v : Int) : (List.replicate n [v]).flatten = List.replicate n v := by
  induction n with
  | zero => rfl
  | succ n ih => simp [List.replicate_succ, ih]
theorem and_low : ∀ (k : Nat) (x y : Int), 0 ≤ y → y < 2 ^ k → Builtin.bitAnd (x * 2 ^ k) y = 0
  | 0, x, y, h0, h1 => by
    have : y = 0 := by simp at h1; omega
    rw [this]
    have := kbt_mask (x * 2 ^ 0) 0
    simpa [Int.emod_one] using this
  | k + 1, x, y, h0, h1 => by
    rw [kbt_halves]
    have e : x * 2 ^ (k + 1) / 2 = x * 2 ^ k := by rw [Int.pow_succ, ← Int.mul_assoc, Int.mul_ediv_cancel _ (by decide)]
    have e2 : x * 2 ^ (k + 1) % 2 = 0 := by rw [Int.pow_succ, ← Int.mul_assoc, Int.mul_emod_left]
    rw [Int.pow_succ] at h1
    rw [e, e2, and_low k x (y / 2) (Int.ediv_nonneg h0 (by decide)) (Int.ediv_lt_of_lt_mul (by decide) h1)]
    simp
theorem or_low {k : Nat} {x y : Int} (h0 : 0 ≤ y) (h1 : y < 2 ^ k) : Builtin.bitOr (x * 2 ^ k) y = x * 2 ^ k + y := by
  have a := PyProof.Rows.bitXor_and (x * 2 ^ k) y
  rw [and_low k x y h0 h1] at a
  have b : Builtin.bitXor (x * 2 ^ k) y = Builtin.bitOr (x * 2 ^ k) y - Builtin.bitAnd (x * 2 ^ k) y := rfl
  rw [and_low k x y h0 h1] at b
  omega
theorem cut_len {n : Nat} {low high : Int} (h0 : 0 ≤ low) (h1 : low ≤ high) (h2 : high < n) : min (high + 1).toNat n - low.toNat = (high - low + 1).toNat := by
  obtain ⟨l, rfl⟩ := Int.eq_ofNat_of_zero_le h0
  obtain ⟨k, rfl⟩ := Int.eq_ofNat_of_zero_le (Int.le_trans h0 h1)
  have a : l ≤ k := Int.ofNat_le.mp h1
  have b : k + 1 ≤ n := Int.ofNat_lt.mp h2
  rw [← Int.ofNat_sub a]
  show min (k + 1) n - l = k - l + 1
  rw [Nat.min_eq_left b, Nat.succ_sub a]
theorem cut_le {n : Nat} {low high : Int} (h0 : 0 ≤ low) (h1 : low ≤ high) (h2 : high < n) : (high - low + 1).toNat ≤ n - low.toNat := cut_len h0 h1 h2 ▸ Nat.sub_le_sub_right (Nat.min_le_right _ _) _
/-- extract -/
theorem val_extr {bs : List Int} (h : Bits bs) {low high : Int} (h0 : 0 ≤ low) (h1 : low ≤ high) (h2 : high < bs.length) :
    Builtin.bitAnd ((worth bs).fdiv (2 ^ low.toNat)) (1 * 2 ^ (high - low + 1).toNat - 1) = worth (List.take (min (high + 1).toNat bs.length - low.toNat) (List.drop low.toNat bs)) := by
  rw [Int.one_mul, kbt_mask, Int.fdiv_eq_ediv_of_nonneg _ (Int.le_of_lt (Int.pow_pos (by decide))), ← (worth_cut h low.toNat (Int.toNat_le.mpr (Int.le_of_lt (Int.lt_of_le_of_lt h1 h2)))).1]
  rw [cut_len h0 h1 h2]
  exact ((worth_cut (h.drop low.toNat) (high - low + 1).toNat (by rw [List.length_drop]; exact cut_le h0 h1 h2)).2).symm
theorem val_conc {bs bs1 : List Int} (h1 : Bits bs1) {wx : Int} (hw : wx = bs1.length) : Builtin.bitOr (worth bs * 2 ^ wx.toNat) (worth bs1) = worth (bs1 ++ bs) := by
  have r := worth_range h1
  rw [hw, Int.toNat_natCast, or_low r.1 r.2, worth_append, Int.mul_comm, Int.add_comm]
theorem val_zero {bs : List Int} (n : Nat) : worth bs = worth (bs ++ (List.replicate n [0]).flatten) := by
  rw [flat_rep, worth_append, worth_rep0]; simp
theorem pq (m n : Nat) : (2 : Int) ^ m ≤ 2 ^ m * 2 ^ n := by
  have := Int.mul_le_mul_of_nonneg_left (Int.add_one_le_of_lt (pp n)) (Int.le_of_lt (pp m))
  rwa [Int.zero_add, Int.mul_one] at this
theorem nt1 (n : Nat) : (-1 + ((n + 1 : Nat) : Int)).toNat = n := by rw [Int.add_comm]; show ((n : Int) + 1 + -1).toNat = n; rw [Int.add_neg_cancel_right, Int.toNat_natCast]
theorem nt2 (n : Nat) : (((n + 1 : Nat) : Int) - 1).toNat = n := by show ((n : Int) + 1 - 1).toNat = n; rw [Int.add_sub_cancel, Int.toNat_natCast]
theorem nt3 (n : Nat) {low : Int} (h : 0 ≤ low) : ((n : Int) + low).toNat = n + low.toNat := by rw [Int.toNat_add (Int.natCast_nonneg _) h, Int.toNat_natCast]
theorem em1 {x p r : Int} (a : 0 ≤ x) (b : x < p) (c : p ≤ r) : (x - p) % r = x + (r - p) := by
  rw [← Int.add_mul_emod_self_left (x - p) r 1, Int.mul_one, Int.emod_eq_of_lt (by omega) (by omega)]
  omega
theorem last_bit {bs : List Int} (h : Bits bs) (hl : 0 < bs.length) : ∃ v, (v = 0 ∨ v = 1) ∧ bs.getD (-1 + (bs.length : Int)).toNat 0 = v ∧ (worth bs).fdiv (2 ^ ((bs.length : Int) - 1).toNat) = v := by
  have hne : bs ≠ [] := fun e => by rw [e] at hl; cases hl
  have e : bs = bs.dropLast ++ [bs.getLast hne] := (List.dropLast_concat_getLast hne).symm
  have hv := h _ (List.getLast_mem hne)
  have ha : Bits bs.dropLast := fun z hz => h z (List.dropLast_subset bs hz)
  generalize bs.getLast hne = v at e hv
  generalize bs.dropLast = a at e ha
  subst e
  have ra := worth_range ha
  have el : (a ++ [v]).length = a.length + 1 := List.length_append
  refine ⟨v, hv, ?_, ?_⟩
  · rw [el, nt1, List.getD_eq_getElem?_getD, List.getElem?_append_right (Nat.le_refl _), Nat.sub_self]; rfl
  · rw [el, nt2, worth_append, Int.fdiv_eq_ediv_of_nonneg _ (Int.le_of_lt (pp _)), Int.add_mul_ediv_left _ _ (Int.ne_of_gt (pp _)), Int.ediv_eq_zero_of_lt ra.1 ra.2, Int.zero_add]
    exact Int.add_zero v
theorem val_sign1 {bs : List Int} (h : Bits bs) {wx low : Int} (hw : wx = bs.length) (hl : 0 < bs.length) (h0 : 0 ≤ low) (hc : (worth bs).fdiv (2 ^ (wx - 1).toNat) = 1) :
    Builtin.bitAnd (worth bs - 1 * 2 ^ wx.toNat) (1 * 2 ^ (wx + low).toNat - 1) = worth (bs ++ (List.replicate low.toNat [bs.getD (-1 + (bs.length : Int)).toNat 0]).flatten) := by
  subst hw
  obtain ⟨v, hv, hg, hd⟩ := last_bit h hl
  rw [hd] at hc
  subst hc
  have rb := worth_range h
  rw [hg, flat_rep, Int.one_mul, Int.one_mul, kbt_mask, worth_append, worth_rep1, nt3 _ h0, Int.toNat_natCast, Int.pow_add, Int.mul_sub, Int.mul_one]
  exact em1 rb.1 rb.2 (pq _ _)
theorem val_sign0 {bs : List Int} (h : Bits bs) {wx low : Int} (hw : wx = bs.length) (hl : 0 < bs.length) (h0 : 0 ≤ low) (hc : (worth bs).fdiv (2 ^ (wx - 1).toNat) ≠ 1) :
    Builtin.bitAnd (worth bs) (1 * 2 ^ (wx + low).toNat - 1) = worth (bs ++ (List.replicate low.toNat [bs.getD (-1 + (bs.length : Int)).toNat 0]).flatten) := by
  subst hw
  obtain ⟨v, hv, hg, hd⟩ := last_bit h hl
  rw [hd] at hc
  have hv := hv.resolve_right hc
  subst hv
  have rb := worth_range h
  rw [hg, flat_rep, Int.one_mul, kbt_mask, worth_append, worth_rep0, Int.mul_zero, Int.add_zero, nt3 _ h0, Int.pow_add]
  exact Int.emod_eq_of_lt rb.1 (Int.lt_of_lt_of_le rb.2 (pq _ _))
end
section
open PySem PySem.W PySem.Calls PyProof.Rows
noncomputable def isOp (x : Str) : Prop := x = Str.ofString "extract" ∨ x = Str.ofString "concat" ∨ x = Str.ofString "zero_extend" ∨ x = Str.ofString "sign_extend"
/-- the width that an operation is due -/
noncomputable def DueIs (ts : List Tm) (sw : List Int) (op : Str) (al : List Int) (dk : EK) (due : Int) : Prop :=
  (op = Str.ofString "extract" ∧ ∃ t high low, al = [t] ∧ dk = .t [high, low] ∧ due = high - low + 1) ∨
  (op = Str.ofString "concat" ∧ ∃ t t2 w1 w2, al = [t, t2] ∧ wof ts sw t w1 ∧ wof ts sw t2 w2 ∧ due = w1 + w2) ∨
  ((op = Str.ofString "zero_extend" ∨ op = Str.ofString "sign_extend") ∧ ∃ t many w1, al = [t] ∧ dk = .i many ∧ wof ts sw t w1 ∧ due = w1 + many)
theorem wof_det {ts : List Tm} {sw : List Int} {t a b : Int} (x : wof ts sw t a) (y : wof ts sw t b) : a = b := by
  obtain ⟨_, T, h1, _, h2⟩ := x
  obtain ⟨_, T', h1', _, h2'⟩ := y
  rw [h1] at h1'
  cases h1'
  rw [h2] at h2'
  exact Option.some.inj h2'
theorem get_pre {α : Type} {a b : List α} (h : a <+: b) {i : Nat} {x : α} (e : a[i]? = some x) : b[i]? = some x := by
  obtain ⟨c, rfl⟩ := h
  rw [List.getElem?_append_left (List.getElem?_eq_some_iff.mp e).1]; exact e
theorem wof_pre {ts ts' : List Tm} {sw sw' : List Int} (h : ts <+: ts') (h' : sw <+: sw') {t a : Int} (x : wof ts sw t a) : wof ts' sw' t a := by
  obtain ⟨h0, T, h1, h2, h3⟩ := x
  exact ⟨h0, T, get_pre h h1, h2, get_pre h' h3⟩
theorem due_pre {ts ts' : List Tm} {sw sw' : List Int} (h : ts <+: ts') (h' : sw <+: sw') {op : Str} {al : List Int} {dk : EK} {due : Int} (x : DueIs ts sw op al dk due) : DueIs ts' sw' op al dk due := by
  rcases x with x | ⟨e, t, t2, w1, w2, e1, e2, e3, e4⟩ | ⟨e, t, m, w1, e1, e2, e3, e4⟩
  · exact .inl x
  · exact .inr (.inl ⟨e, t, t2, w1, w2, e1, wof_pre h h' e2, wof_pre h h' e3, e4⟩)
  · exact .inr (.inr ⟨e, t, m, w1, e1, e2, wof_pre h h' e3, e4⟩)
theorem ne_ops : Str.ofString "extract" ≠ Str.ofString "concat" ∧ Str.ofString "extract" ≠ Str.ofString "zero_extend" ∧ Str.ofString "extract" ≠ Str.ofString "sign_extend" ∧ Str.ofString "concat" ≠ Str.ofString "zero_extend" ∧ Str.ofString "concat" ≠ Str.ofString "sign_extend" := by decide
theorem due_det {ts : List Tm} {sw : List Int} {op : Str} {al : List Int} {dk : EK} {a b : Int} (x : DueIs ts sw op al dk a) (y : DueIs ts sw op al dk b) : a = b := by
  obtain ⟨n1, n2, n3, n4, n5⟩ := ne_ops
  rcases x with ⟨e, t, hi, lo, e1, e2, e3⟩ | ⟨e, t, t2, w1, w2, e1, e2, e3, e4⟩ | ⟨e, t, m, w1, e1, e2, e3, e4⟩ <;> rcases y with ⟨f, u, hi', lo', f1, f2, f3⟩ | ⟨f, u, u2, v1, v2, f1, f2, f3, f4⟩ | ⟨f, u, m', v1, f1, f2, f3, f4⟩
  · rw [e2] at f2; injection f2 with f2; simp at f2; rw [e3, f3, f2.1, f2.2]
  · exact absurd (e.symm.trans f) n1
  · rcases f with f | f
    · exact absurd (e.symm.trans f) n2
    · exact absurd (e.symm.trans f) n3
  · exact absurd (f.symm.trans e) n1
  · rw [e1] at f1; simp at f1; obtain ⟨rfl, rfl⟩ := f1; rw [e4, f4, wof_det e2 f2, wof_det e3 f3]
  · rcases f with f | f
    · exact absurd (e.symm.trans f) n4
    · exact absurd (e.symm.trans f) n5
  · rcases e with e | e
    · exact absurd (f.symm.trans e) n2
    · exact absurd (f.symm.trans e) n3
  · rcases e with e | e
    · exact absurd (f.symm.trans e) n4
    · exact absurd (f.symm.trans e) n5
  · rw [e1] at f1; simp at f1; subst f1; rw [e2] at f2; injection f2 with f2; rw [e4, f4, wof_det e3 f3, f2]
/-- every term of the four operations has the sort of its due width -/
noncomputable def Typed (ts : List Tm) (sw : List Int) : Prop := ∀ (i : Nat) T, 1 ≤ i → ts[i]? = some T → isOp T.op → ∃ due, DueIs ts sw T.op T.al T.dk due ∧ 3 ≤ T.so ∧ sw[T.so.toNat]? = some due
noncomputable def EntBits (Z : List (Addr × Obj)) (wx : Int) (x2 x3 : Value) : Prop :=
  (x2 = .none ∧ x3 = .none) ∨ ∃ bl bv bn bs tx, x2 = .ref bl ∧ (bl, LO bv bn) ∈ Z ∧ IntsAre bv bs ∧ Bits bs ∧ (bs.length : Int) = wx ∧ x3 = .int (worth bs) tx ∧ 1 ≤ wx ∧ wx ≤ 24
/-- an entry of the pool -/
noncomputable def Ent (Z : List (Addr × Obj)) (ts : List Tm) (sw : List Int) (v : Value) : Prop := ∃ e t tt wx tw x2 x3 q, v = .ref e ∧ (e, LO [.int t tt, .int wx tw, x2, x3] q) ∈ Z ∧ wof ts sw t wx ∧ EntBits Z wx x2 x3
theorem EntBits.mono {Z Z' : List (Addr × Obj)} (hs : ∀ p ∈ Z, p ∈ Z') {wx : Int} {x2 x3 : Value} (x : EntBits Z wx x2 x3) : EntBits Z' wx x2 x3 := by
  rcases x with x | ⟨bl, bv, bn, bs, tx, h1, h2, h3⟩
  · exact .inl x
  · exact .inr ⟨bl, bv, bn, bs, tx, h1, hs _ h2, h3⟩
theorem Ent.mono {Z Z' : List (Addr × Obj)} {ts ts' : List Tm} {sw sw' : List Int} (hs : ∀ p ∈ Z, p ∈ Z') (h : ts <+: ts') (h' : sw <+: sw') {v : Value} (x : Ent Z ts sw v) : Ent Z' ts' sw' v := by
  obtain ⟨e, t, tt, wx, tw, x2, x3, q, h1, h2, h3, h4⟩ := x
  exact ⟨e, t, tt, wx, tw, x2, x3, q, h1, hs _ h2, wof_pre h h' h3, h4.mono hs⟩
/-- known: its keys are the terms of the four operations -/
structure Known (ts : List Tm) (ks : List (List EK × Addr × Value)) : Prop where
  k1 : ∀ k p, atKey ks k = some p → ∃ (i : Nat) (T : Tm) (tk : Tok), ts[i]? = some T ∧ 1 ≤ i ∧ isOp T.op ∧ p.2 = .int i tk ∧ k = [.s T.op, .t T.al, T.dk]
  k2 : ∀ (i : Nat) T, ts[i]? = some T → 1 ≤ i → isOp T.op → ∃ q tk, atKey ks [.s T.op, .t T.al, T.dk] = some (q, .int i tk)
theorem so_of {w : World} {Z : List (Addr × Obj)} {b : BSt} {ts : List Tm} {sw : List Int} (I : BInv w Z b ts sw) {i j : Nat} {x : Int} (h3 : 3 ≤ i) (h3' : 3 ≤ j) (h : sw[i]? = some x) (h' : sw[j]? = some x) : i = j := by
  obtain ⟨bs, _, _, _, g⟩ := I.bv
  obtain ⟨tk, e⟩ := g i x h h3
  obtain ⟨tk', e'⟩ := g j x h' h3'
  rw [e] at e'
  injection e' with e'
  injection e' with e' _
  exact Int.ofNat_inj.mp e'
/-- the old term is known -/
theorem known_old {ts : List Tm} {ks : List (List EK × Addr × Value)} (K : Known ts ks) {r : Nat} {op : Str} {al : List Int} {dk : EK} {so : Int} (hop : isOp op) (h1 : 1 ≤ r) (h : ts[r]? = some ⟨op, al, so, dk⟩) :
    ∃ q tk, atKey ks [.s op, .t al, dk] = some (q, .int r tk) := K.k2 r _ h h1 hop
/-- the new term is not known -/
theorem known_new {w : World} {Z : List (Addr × Obj)} {b : BSt} {ts : List Tm} {sw sw' : List Int} {ts' : List Tm} {ks : List (List EK × Addr × Value)} (K : Known ts ks) (Ty : Typed ts sw) (I : BInv w Z b ts' sw') (hpre : sw <+: sw') {op : Str} {al : List Int} {dk : EK} {j : Nat} {due : Int}
    (hj : 3 ≤ j) (hjd : sw'[j]? = some due) (hD : DueIs ts sw op al dk due) (hn : ∀ i : Nat, 1 ≤ i → ts[i]? ≠ some ⟨op, al, j, dk⟩) : atKey ks [.s op, .t al, dk] = none := by
  cases hk : atKey ks [.s op, .t al, dk] with
  | none => rfl
  | some p =>
    exfalso
    obtain ⟨i, T, tk, e1, e2, e3, e4, e5⟩ := K.k1 _ _ hk
    simp only [List.cons.injEq, EK.s.injEq, EK.t.injEq, and_true] at e5
    obtain ⟨rfl, rfl, rfl⟩ := e5
    obtain ⟨due', D', s1, s2⟩ := Ty i T e2 e1 e3
    obtain rfl := due_det hD D'
    have := so_of I hj (by omega) hjd (get_pre hpre s2)
    refine hn i e2 ?_
    rw [e1, show (j : Int) = T.so by rw [this]; exact Int.toNat_of_nonneg (Int.le_trans (by decide) s1)]
theorem atKey_snoc {ks : List (List EK × Addr × Value)} {k k' : List EK} {q : Addr} {v : Value} (h : atKey ks k = none) : atKey (ks ++ [(k, q, v)]) k' = if k' = k then some (q, v) else atKey ks k' := by
  unfold atKey at h ⊢
  rw [List.find?_append]
  split
  · subst k'; rw [Option.map_eq_none_iff.mp h]; simp
  · rename_i hne
    cases hf : ks.find? fun x => decide (x.1 = k') with
    | some y => simp
    | none =>
      simp only [Option.none_or, Option.map_none, Option.map_eq_none_iff, List.find?_cons, List.find?_nil]
      split
      · rename_i hh; simp at hh; exact absurd hh.symm hne
      · rfl
theorem known_snoc {ts : List Tm} {ks : List (List EK × Addr × Value)} (K : Known ts ks) {op : Str} {al : List Int} {dk : EK} {so : Int} {q : Addr} {tr : Tok} (hop : isOp op) (hn : atKey ks [.s op, .t al, dk] = none) (h1 : 1 ≤ ts.length) :
    Known (ts ++ [⟨op, al, so, dk⟩]) (ks ++ [([.s op, .t al, dk], q, .int ts.length tr)]) := by
  have cut : ∀ (i : Nat) T, (ts ++ [(⟨op, al, so, dk⟩ : Tm)])[i]? = some T → ts[i]? = some T ∨ (i = ts.length ∧ T = ⟨op, al, so, dk⟩) := fun i T h => by
    rcases Nat.lt_or_ge i ts.length with hlt | hge
    · rw [List.getElem?_append_left hlt] at h; exact .inl h
    · rw [List.getElem?_append_right hge] at h
      cases q : i - ts.length with
      | zero => rw [q] at h; right; refine ⟨Nat.le_antisymm (Nat.le_of_sub_eq_zero q) hge, by simpa using h.symm⟩
      | succ n => rw [q] at h; simp at h
  refine ⟨fun k p hk => ?_, fun i T hT hi ho => ?_⟩
  · rw [atKey_snoc hn] at hk
    split at hk
    · subst k; cases hk
      exact ⟨ts.length, ⟨op, al, so, dk⟩, tr, by simp, h1, hop, rfl, rfl⟩
    · obtain ⟨i, T, tk, e1, e2⟩ := K.k1 k p hk
      exact ⟨i, T, tk, get_pre (List.prefix_append _ _) e1, e2⟩
  · rw [atKey_snoc hn]
    rcases cut i T hT with hT | ⟨rfl, rfl⟩
    · obtain ⟨q', tk, e⟩ := K.k2 i T hT hi ho
      rw [if_neg (fun h => by rw [h] at e; rw [hn] at e; cases e)]
      exact ⟨q', tk, e⟩
    · rw [if_pos rfl]
      exact ⟨q, tr, rfl⟩
theorem typed_pre {ts : List Tm} {sw sw' : List Int} (Ty : Typed ts sw) (h : sw <+: sw') : Typed ts sw' := fun i T h1 h2 h3 => by
  obtain ⟨due, D, s1, s2⟩ := Ty i T h1 h2 h3
  exact ⟨due, due_pre (List.prefix_refl _) h D, s1, get_pre h s2⟩
theorem typed_snoc {ts : List Tm} {sw sw' : List Int} (Ty : Typed ts sw) (h : sw <+: sw') {op : Str} {al : List Int} {dk : EK} {j : Nat} {due : Int} (hj : 3 ≤ j) (hjd : sw'[j]? = some due) (hD : DueIs ts sw op al dk due) :
    Typed (ts ++ [⟨op, al, j, dk⟩]) sw' := fun i T h1 h2 h3 => by
  rcases Nat.lt_or_ge i ts.length with hlt | hge
  · rw [List.getElem?_append_left hlt] at h2
    obtain ⟨due, D, s1, s2⟩ := Ty i T h1 h2 h3
    exact ⟨due, due_pre (List.prefix_append _ _) h D, s1, get_pre h s2⟩
  · rw [List.getElem?_append_right hge] at h2
    cases q : i - ts.length with
    | zero =>
      rw [q] at h2
      obtain rfl : (⟨op, al, j, dk⟩ : Tm) = T := by simpa using h2
      exact ⟨due, due_pre (List.prefix_append _ _) h hD, by show (3 : Int) ≤ (j : Int); omega, by show sw'[(j : Int).toNat]? = _; simpa using hjd⟩
    | succ n => rw [q] at h2; simp at h2
end
section
open PySem PySem.W PySem.Calls PyProof.Rows
/-! what a passage to a lesser ledger keeps: the tuples -/
theorem NKin.monoT {W W' : List (Addr × Obj)} (hs : ∀ a us, (a, tupO us) ∈ W → (a, tupO us) ∈ W') {ks : List EK} {a : Addr} : NKin W ks a → NKin W' ks a
  | ⟨vs, g, e⟩ => ⟨vs, hs _ _ g, e.monoT hs⟩
theorem NuIs.monoT {prog : Program} {w : World} {W W' : List (Addr × Obj)} {o : Obj} {xs : List (List EK × Addr × Value)} (hs : ∀ a us, (a, tupO us) ∈ W → (a, tupO us) ∈ W') (x : NuIs prog w W o xs) : NuIs prog w W' o xs :=
  ⟨x.exact, x.ents, fun y hy => (x.keys y hy).monoT hs, x.nodup⟩
theorem TmAt.monoT {Z Z' : List (Addr × Obj)} {b : BSt} {i : Nat} {T : Tm} (hs : ∀ a us, (a, tupO us) ∈ Z → (a, tupO us) ∈ Z') (x : TmAt Z b i T) : TmAt Z' b i T :=
  ⟨x.op, let ⟨a, h1, h2⟩ := x.al; ⟨a, h1, h2.monoT hs⟩, x.so, let ⟨v, h1, h2⟩ := x.dk; ⟨v, h1, h2.monoT hs⟩⟩
theorem BInv.monoT {w : World} {Z Z' : List (Addr × Obj)} {b : BSt} {ts : List Tm} {sw : List Int} (hs : ∀ a us, (a, tupO us) ∈ Z → (a, tupO us) ∈ Z') (x : BInv w Z b ts sw) : BInv w Z' b ts sw :=
  ⟨x.nt, fun i T h => (x.tm i T h).monoT hs, x.ns, x.so, x.bv, let ⟨xs, h1, h2⟩ := x.nu; ⟨xs, h1.monoT hs, h2⟩⟩
theorem BA.Off.sub {c : BA} {Z Z' : List (Addr × Obj)} (x : c.Off Z) (hs : ∀ p ∈ Z', p ∈ Z) : c.Off Z' :=
  ⟨fun p hp => x.bk p (hs p hp), fun p hp => x.bd p (hs p hp), fun p hp => x.sn p (hs p hp), fun p hp => x.sw p (hs p hp), fun p hp => x.to p (hs p hp), fun p hp => x.ta p (hs p hp), fun p hp => x.ts p (hs p hp), fun p hp => x.td p (hs p hp), fun p hp => x.nu p (hs p hp), fun p hp => x.bv p (hs p hp)⟩
theorem BA.Off.add {c : BA} {Z Z' : List (Addr × Obj)} {a : Addr} {o : Obj} (x : c.Off Z) (h : (a, o) ∈ Z) (y : c.Off Z') : c.Off ((a, o) :: Z') :=
  ⟨all_cons (x.bk _ h) y.bk, all_cons (x.bd _ h) y.bd, all_cons (x.sn _ h) y.sn, all_cons (x.sw _ h) y.sw, all_cons (x.to _ h) y.to, all_cons (x.ta _ h) y.ta,
    (all_cons (x.ts _ h) y.ts), all_cons (x.td _ h) y.td, all_cons (x.nu _ h) y.nu, all_cons (x.bv _ h) y.bv⟩
theorem BA.Off.low {c : BA} {Z : List (Addr × Obj)} {a : Nat} {o : Obj} (x : c.Off Z) (h : a < c.bk ∧ a < c.bd ∧ a < c.sn ∧ a < c.sw ∧ a < c.to ∧ a < c.ta ∧ a < c.ts ∧ a < c.td ∧ a < c.nu ∧ a < c.bv) : c.Off ((a, o) :: Z) := by
  obtain ⟨h1, h2, h3, h4, h5, h6, h7, h8, h9, h10⟩ := h
  exact ⟨all_cons (Nat.ne_of_lt h1) x.bk, all_cons (Nat.ne_of_lt h2) x.bd, all_cons (Nat.ne_of_lt h3) x.sn, all_cons (Nat.ne_of_lt h4) x.sw, all_cons (Nat.ne_of_lt h5) x.to,
    (all_cons (Nat.ne_of_lt h6) x.ta), all_cons (Nat.ne_of_lt h7) x.ts, all_cons (Nat.ne_of_lt h8) x.td, all_cons (Nat.ne_of_lt h9) x.nu, all_cons (Nat.ne_of_lt h10) x.bv⟩
/-- a ledger without the objects that turn -/
theorem purge {h₁ h : Heap} {L : Addr} {news Z7 : List (Addr × Obj)} (N : News h₁ L h news) (hs : ∀ p ∈ Z7, p ∈ news) (xs : List (Addr × Obj)) (hx : ∀ p ∈ xs, p ∈ news) (ht : ∀ p ∈ xs, ∀ us, p.2 ≠ tupO us) :
    ∃ Zn : List (Addr × Obj), (∀ p ∈ Zn, p ∈ Z7) ∧ (∀ p ∈ Z7, (∀ x ∈ xs, p.1 ≠ x.1) → p ∈ Zn) ∧ (∀ p ∈ Zn, ∀ x ∈ xs, p.1 ≠ x.1) ∧ (∀ a us, (a, tupO us) ∈ Z7 → (a, tupO us) ∈ Zn) := by
  refine ⟨Z7.filter fun (p : Addr × Obj) => @decide (∀ x ∈ xs, p.1 ≠ x.1) (Classical.propDecidable _), fun p hp => (List.mem_filter.mp hp).1, fun p hp hq => List.mem_filter.mpr ⟨hp, (@decide_eq_true_iff _ (Classical.propDecidable _)).mpr hq⟩,
    fun p hp => (@decide_eq_true_iff _ (Classical.propDecidable _)).mp (List.mem_filter.mp hp).2, fun a us hm => List.mem_filter.mpr ⟨hm, (@decide_eq_true_iff _ (Classical.propDecidable _)).mpr fun x hxm e => ?_⟩⟩
  have e1 := (N _ (hs _ hm)).1
  have e2 := (N _ (hx _ hxm)).1
  rw [← e] at e2
  rw [e2] at e1
  exact ht x hxm us (Option.some.inj e1)
theorem dict_no_tup {prog : Program} {w : World} {o : Obj} {K : Type} [DecidableEq K] {knd : KeyKind prog w K} {kvs : List (K × Value)} (x : o.IsDictOf knd kvs) (us : List Value) : o ≠ tupO us := by
  rintro rfl
  obtain ⟨_, es, ep, hd, _⟩ := x
  cases hd
theorem nu_no_tup {prog : Program} {w : World} {W : List (Addr × Obj)} {o : Obj} {xs : List (List EK × Addr × Value)} (x : NuIs prog w W o xs) (us : List Value) : o ≠ tupO us := by
  rintro rfl
  obtain ⟨es, ep, hd, _⟩ := x.ents
  cases hd
theorem lo_no_tup {vs us : List Value} {n : Nat} : LO vs n ≠ tupO us := fun h => by
  have := congrArg Obj.cls h
  simp at this
theorem cell_no_tup {o : Obj} {v : Option Value} (h : o.data = .cell v) (us : List Value) : o ≠ tupO us := by
  rintro rfl
  cases h
theorem pool_of {Z Y : List (Addr × Obj)} {ts : List Tm} {sw : List Int} {pv : List Value} (hP : ∀ v ∈ pv, Ent Z ts sw v) (hs : ∀ p ∈ Z, p ∈ Y) : Pool Y pv := fun v hv => by
  obtain ⟨e, t, tt, wx, tw, x2, x3, q, h1, h2, h3, h4⟩ := hP v hv
  refine ⟨e, _, _, x2, x3, q, h1, hs _ h2, ?_⟩
  rcases h4 with h4 | ⟨bl, bv, bn, bs, tx, h5, _⟩
  · exact .inl h4.1
  · exact .inr ⟨bl, h5⟩
noncomputable def SomeBits (Z : List (Addr × Obj)) (pv : List Value) : Prop := ∃ e x0 x1 x2 x3 q, Value.ref e ∈ pv ∧ (e, LO [x0, x1, x2, x3] q) ∈ Z ∧ x2 ≠ .none
theorem SomeBits.mono {Z Y : List (Addr × Obj)} {pv : List Value} (x : SomeBits Z pv) (hs : ∀ p ∈ Z, p ∈ Y) : SomeBits Y pv := by
  obtain ⟨e, x0, x1, x2, x3, q, h1, h2, h3⟩ := x
  exact ⟨e, x0, x1, x2, x3, q, h1, hs _ h2, h3⟩
section
variable {M : Model} {A : Around} {E : Value → Shared → Prop} {s : Shared} {h₀ : Heap} {L : Addr} {m : Str → Option Value} {news : List (Addr × Obj)}
theorem newList_L {vs : List Value} {Q : Value → Shared → Prop} (F : Fr h₀ L s.heap m) (N : News h₀ L s.heap news) (hz : vs.length ≤ 1000)
    (h : ∀ D h', Fr h₀ L h' m → News h₀ L h' ((D, LO vs 0) :: news) → (∀ p ∈ news, p.1 < D) → Q (.ref D) { s with heap := h' }) : wpAny M A (newList vs) Q E s :=
  newList_N F N (fun h' F' N' => h _ h' F' N' fun p hp => Heap.lt_size (N p hp).1) (by rw [sizeLine_eq]; omega)
theorem news_sub {h : Heap} {news' : List (Addr × Obj)} (N : News h₀ L h news) (hs : ∀ p ∈ news', p ∈ news) : News h₀ L h news' := fun p hp => N p (hs p hp)
end
theorem bankLed_tail {P : Params} {c : BA} {b : BSt} {Z : List (Addr × Obj)} : ∀ p ∈ Z, p ∈ bankLed P c b Z := fun _ hp => .tail _ (.tail _ (.tail _ (.tail _ (.tail _ (.tail _ (.tail _ (.tail _ (.tail _ (.tail _ hp)))))))))
section
variable {prog : Program} {w : World} {A : Around} {E : Value → Shared → Prop} {s₁ : Shared} {h₀ : Heap} {L : Addr} {m : Str → Option Value} {news : List (Addr × Obj)}
/-- a comprehension over a list, item by item -/
theorem srcC_rel {env : Env} {elt : Expr} {x : Str} {scope : Scope} {Q : Value → Shared → Prop} {l : Addr} {vs : List Value} (G : Value → Value → Prop)
    (hh : A.handled = none) (hl : s₁.heap.IsList l vs.toArray) (F : Fr h₀ L s₁.heap m) (N : News h₀ L s₁.heap news)
    (g2 : ∀ C v s₂ m₂ E', v ∈ vs → s₂.heap.Ns (compEnv scope C env).locals m₂ → m₂ x = some v → (∀ b o, s₁.heap.get? b = some o → s₂.heap.get? b = some o) → wpAny (model prog w) A (eval elt (compEnv scope C env)) (fun r s₃ => G v r ∧ Keeps s₂ s₃) E' s₂)
    (g3 : ∀ D n ys h' tk, Fr h₀ L h' m → News h₀ L h' ((D, LO ys n) :: news) → Paired G vs ys → (∀ p ∈ news, p.1 ≠ D) → Q (.ref D) { s₁ with heap := h', toks := tk })
    (hsz : vs.length ≤ 100000) :
    wpAny (model prog w) A (pyIter (.ref l)) (CompPost prog w A env scope x [] elt Q) E s₁ := by
  have hlt : l < s₁.heap.objs.size := by obtain ⟨_, e, _⟩ := hl; exact Heap.lt_size e
  refine wpAny_pyIter_list hl ?_
  have up : ∀ (h' : Heap), (∀ b o', b ∉ [s₁.heap.objs.size] → (s₁.heap.push { cls := .type "list_iterator", data := .fields #[.ref l, .int 0 0] }).get? b = some o' → h'.get? b = some o') → ∀ b o', s₁.heap.get? b = some o' → h'.get? b = some o' :=
    fun h' hk b o' e => hk b o' (not_iter_of_old e) (Heap.get?_push_of_some _ e)
  refine ⟨fun _ => true, G, s₁.heap.objs.size, [s₁.heap.objs.size, l], [s₁.heap.objs.size], vs.toArray.size, _, _, rfl, Walks.list hh _ l (Nat.ne_of_lt hlt) vs.toArray, (by rw [List.size_toArray, sizeLine_eq]; omega),
    ⟨⟨_, Heap.get?_push_size _ rfl, rfl, rfl⟩, hl.at fun o e => Heap.get?_push_of_some _ e⟩, ?_, ⟨?_, ?_⟩, ?_⟩
  · intro b hb
    show b < (s₁.heap.push _).objs.size
    rw [Heap.size_push]
    rcases List.mem_cons.mp hb with rfl | hb
    · exact Nat.lt_succ_self _
    · rw [List.mem_singleton.mp hb]; exact Nat.lt_succ_of_lt hlt
  · intro C i v s₃ m₃ E' hP hn hm hk htk
    exact wpAny_tests_nil ⟨rfl, _, _, rfl, fun _ _ e => e⟩
  · intro C i v s₃ m₃ E' hP hp hn hm hk htk
    exact g2 C _ s₃ m₃ E' (List.mem_of_getElem? (by simpa using hP : vs[i]? = some v)) hn hm (up _ hk)
  · intro D h' tk ys vs' hnew hlD hplD hlen hP hF hk
    have e' : vs' = vs := by simpa using walked_is hlen hP
    subst e'
    obtain ⟨n, hD⟩ := hplD
    have hnD : h₀.get? D = none := by
      cases e : h₀.get? D with
      | none => rfl
      | some o' => rw [Heap.get?_push_of_some _ (F.keep _ _ e)] at hnew; cases hnew
    have hF' : Paired G vs' ys.toList := by rw [List.filter_eq_self.mpr (fun _ _ => rfl)] at hF; exact hF
    refine g3 D n ys.toList h' tk (F.keeps (up h' hk)) (News.more (F.keeps (up h' hk)) (N.grown (up h' hk)) (by simpa using hD) (fun es n q => by cases q) hnD) hF' fun p hp e => by
      rw [← e, Heap.get?_push_of_some _ (N p hp).1] at hnew; cases hnew
end
theorem in_int2 {prog : Program} {w : World} {A : Around} {E : Value → Shared → Prop} {s : Shared} {h₀ : Heap} {L d : Addr} {news : List (Addr × Obj)} {a b : Str} {ta tb t : Tok} {n : Int} {Q : Value → Shared → Prop} (hu : A.units + 64 < cLine) (N : News h₀ L s.heap news) (hm : (d, tupO [.str a ta, .str b tb]) ∈ news) (ha : PyData.strOk a = true) (hb : PyData.strOk b = true) (h : Q (.bool false) s) :
    wpAny (model prog w) A (compareOp .In (.int n t) (.ref d)) Q E s := by
  have hN : ∀ p ∈ news, s.heap.get? p.1 = some p.2 := fun p hp => (N p hp).1
  have hk : NKin news [.s a, .s b] d := ⟨_, hm, .cons ⟨_, rfl, ha⟩ (.cons ⟨_, rfl, hb⟩ .nil)⟩
  have hx : PyData.canLayAll0 ([EK.s a, EK.s b].map encE) = true := by simpa [encN, PyData.canLay0] using lay_n (hk.at hN)
  have hd : PyData.depthAll ([EK.s a, EK.s b].map encE) ≤ 2 := depth_es _
  refine SeqAt.in_tuple_reads (xs := [EK.s a, EK.s b].map encE) (d := .int n) (nk_reads (hk.at hN)) (Reads.int _ _) hx rfl ?_ ?_
  · have : min (PyData.depthAll ([EK.s a, EK.s b].map encE)) (PyData.int n).depth ≤ 2 := Nat.le_trans (Nat.min_le_left _ _) hd
    omega
  · simpa [encE, PyData.eqv] using h
noncomputable abbrev stepLed (P : Params) (c : BA) (b : BSt) (fd cl pl kn wd : Nat) (ofd okn ow : Obj) (vs pv : List Value) (n pn : Nat) (Z : List (Addr × Obj)) : List (Addr × Obj) :=
  (fd, ofd) :: (cl, LO vs n) :: (pl, LO pv pn) :: (kn, okn) :: (wd, ow) :: bankLed P c b Z
/-- the world's state between two steps -/
structure WF (w : World) (c : BA) (fd cl pl kn wd : Nat) (bl : Int) (lap : Nat) (b : BSt) (Z : List (Addr × Obj)) (ts : List Tm) (sw : List Int) (ofd okn ow : Obj) (pv : List Value) (ks : List (List EK × Addr × Value)) : Prop where
  ZO : c.Off Z
  zfd : ∀ p ∈ Z, p.1 ≠ fd
  zpl : ∀ p ∈ Z, p.1 ≠ pl
  zkn : ∀ p ∈ Z, p.1 ≠ kn
  zwd : ∀ p ∈ Z, p.1 ≠ wd
  hfd : ∃ k tk tb, ofd.IsDictOf (PySem.strKind PySem.Challenge.rw_nz0152_01.row.prog w) (feedKvs cl k bl tk tb) ∧ 0 ≤ k ∧ k ≤ 10 + 10 * lap
  hwd : ∃ bf hv tbf, ow.IsDictOf (PySem.strKind PySem.Challenge.rw_nz0152_01.row.prog w) (worldKvs c pl kn bf hv tbf)
  I : BInv w Z b ts sw
  hP : ∀ v ∈ pv, Ent Z ts sw v
  hsm : SomeBits Z pv
  Ty : Typed ts sw
  K : Known ts ks
  NU : NuIs PySem.Challenge.rw_nz0152_01.row.prog w Z okn ks
  sz : pv.length ≤ 10 + lap ∧ ts.length ≤ 10 + lap ∧ sw.length ≤ 10 + lap ∧ ks.length ≤ lap
theorem wf_feed {w : World} {c : BA} {fd cl pl kn wd : Nat} {bl : Int} {lap : Nat} {b : BSt} {Z : List (Addr × Obj)} {ts : List Tm} {sw : List Int} {ofd okn ow : Obj} {pv : List Value} {ks : List (List EK × Addr × Value)} {G : Prop} (x : WF w c fd cl pl kn wd bl lap b Z ts sw ofd okn ow pv ks)
    (g : ∀ k tk tb, ofd.IsDictOf (PySem.strKind PySem.Challenge.rw_nz0152_01.row.prog w) (feedKvs cl k bl tk tb) → 0 ≤ k → k ≤ 10 + 10 * lap → G) : G := by
  obtain ⟨k, tk, tb, h1, h2, h3⟩ := x.hfd
  exact g k tk tb h1 h2 h3
end
set_option hygiene false in
local macro_rules | `(tactic| walk_at "newList") => `(tactic| (k_here; k_dflt (refine' newList_L (by k_asm) (by k_asm) (by simp) ?_; k_whole); (first | ((fail_if_success have q9 := Lk); intro Lk _ _ _ lLk; k_lt lLk) | ((fail_if_success have q9 := Lk2); intro Lk2 _ _ _ lLk2; k_lt lLk2) | ((fail_if_success have q9 := Lk3); intro Lk3 _ _ _ lLk3; k_lt lLk3) | ((fail_if_success have q9 := Lk4); intro Lk4 _ _ _ lLk4; k_lt lLk4)); (try k_sweep)))
section
open PySem PySem.W PySem.Calls PyProof.Rows
section
variable {w : World} {mean : ExcName → Option Value} {mg mb : Str → Option Value} {dp un : Nat} {gd : Option (List Code)} {env : Env} {outer : List Env} {A₀ : Around} {base h₀ : Heap} {L : Addr} {m : Str → Option Value} {s : Shared} {Q E : Value → Shared → Prop}
    {c : BA} {b : BSt} {Z Zk : List (Addr × Obj)} {ts ts9 : List Tm} {sw sw9 : List Int} {wd kn ky en pl : Addr} {ow okn : Obj} {kv : List Value} {n r9 : Nat} {ks : List (List EK × Addr × Value)} {op : Str} {al : List Int} {dk : EK} {bf due : Int} {tr tbf t5 : Tok} {v0 v2 v3 : Value}
/-- _law_kept, new or old -/
theorem kept_any (B : Below A₀ base outer h₀) (F : Fr h₀ L s.heap m) (X : (heap w.params).In h₀) (T : Top view (looseW view []) mean mg mb h₀)
    (hf : env.frame = some L) (hk : env.scope.kind = .function) (hdp : dp ≤ 440) (hun : un ≤ 470)
    (N : News h₀ L s.heap (keptLed w.params c b Z kn wd ky en okn ow kv [v0, .int due t5, v2, v3] n)) (O : c.Ord) (hwd : ow.IsDictOf (PySem.strKind PySem.Challenge.rw_nz0152_01.row.prog w) (worldKvs c pl kn bf (.int r9 tr) tbf))
    (NU : NuIs PySem.Challenge.rw_nz0152_01.row.prog w Zk okn ks) (hZk : ∀ p ∈ Zk, p ∈ Z) (lo : (kn == sysModules) = false) (hky : NKin ((ky, tupO kv) :: Z) [.s op, .t al, dk] ky)
    (hoff : ∀ p ∈ bankLed w.params c b ((wd, ow) :: (ky, tupO kv) :: (en, LO [v0, .int due t5, v2, v3] n) :: Z), p.1 ≠ kn) (hks : ks.length ≤ 800)
    (I : BInv w Z b ts9 sw9) (hts : ts.length ≤ 800) (hsw : sw9.length ≤ 900) (h1 : 1 ≤ ts.length) (KN : Known ts ks) (Ty : Typed ts sw) (pre : sw <+: sw9) (hop : isOp op) (hopk : PyData.strOk op = true)
    (MD : Made ts ts9 sw9 r9 op al due dk) (hD : DueIs ts sw op al dk due) (hbf : bf = ts.length - 1) (hd0 : 0 ≤ due) (hd1 : due ≤ 4096)
    (ret : ∀ h' tk' okn' ks', Fr h₀ L h' m → News h₀ L h' (keptLed w.params c b Z kn wd ky en okn' ow kv [v0, .int due t5, v2, v3] n) → NuIs PySem.Challenge.rw_nz0152_01.row.prog w ((ky, tupO kv) :: Z) okn' ks' → Known ts9 ks' → Typed ts9 sw9 → ks'.length ≤ ks.length + 1 → ts <+: ts9 → ts9.length ≤ ts.length + 1 → Q (.bool true) { s with heap := h', toks := tk' }) :
    wpAny (model PySem.Challenge.rw_nz0152_01.row.prog w) { handled := none, depth := dp, frames := some (env :: outer), guards := gd, units := un } (call (.ref 705) [.ref wd, .ref ky, .ref en]) Q E s := by
  obtain ⟨m1, m2, m3, m4, m5⟩ := id I.nt
  obtain ⟨hr1, j9, hj3, hjd, hr2, hr3⟩ := MD
  rcases hr3 with rfl | ⟨rfl, rfl, hn⟩
  · obtain ⟨q, tk, hat⟩ := known_old KN hop hr1 hr2
    have e1 : bf = (b.vo.length : Int) - 1 := by rw [m1]; exact hbf
    have e2 : b.vo.length ≤ 900 := by rw [m1]; exact Nat.le_trans hts (by decide)
    have e3 := Nat.le_succ ks.length
    have e4 := Nat.le_succ ts9.length
    exact kept_old B F X T hf hk hdp hun N O hwd NU hZk lo hky hat (by omega) (by omega) fun h' tk' F' N' => ret _ _ okn ks F' N' (NU.mono fun p hp => .tail _ (hZk p hp)) KN (typed_pre Ty pre) (by omega) (List.prefix_refl _) (by omega)
  · have hnone := known_new KN Ty I pre hj3 hjd hD hn
    obtain ⟨⟨t1, e1⟩, ⟨a9, e2, e3⟩, ⟨t2, e6⟩, ⟨dv9, e4, e5⟩⟩ := I.tm _ _ hr2
    have sj := I.so _ _ hjd
    obtain ⟨t3, e7⟩ := sj.w
    obtain ⟨nm, t4, e8, _, e9⟩ := sj.n
    obtain rfl := e9 hj3
    have hl9 : (ts ++ [(⟨op, al, j9, dk⟩ : Tm)]).length = ts.length + 1 := by simp
    rw [hl9] at m1 m2 m3 m4
    have hj9 := (List.getElem?_eq_some_iff.mp hjd).1
    have ze6 : b.vo.length ≤ 900 := by rw [m1]; exact Nat.succ_le_succ (Nat.le_trans hts (by decide))
    have ze7 : (ts.length : Int) = (b.vo.length : Int) - 1 := by rw [m1]; show (ts.length : Int) = ((ts.length : Int) + 1) - 1; exact (Int.add_sub_cancel _ _).symm
    have ze8 : (1 : Int) ≤ ts.length := Int.ofNat_le.mpr h1
    have ze9 : (ts.length : Int) = bf + 1 := by rw [hbf]; exact (Int.sub_add_cancel _ _).symm
    have ze10 : (0 : Int) ≤ j9 := Int.natCast_nonneg j9
    have ze11 : (j9 : Int) < 100000 := Int.ofNat_lt.mpr (Nat.lt_of_lt_of_le hj9 (Nat.le_trans hsw (by decide)))
    refine kept_new (so := (j9 : Int)) B F X T hf hk hdp hun N O hwd NU hZk lo hky hnone hoff (by omega) (by omega) (by omega) (by omega) (by omega) hopk (by simpa using e1) (by simpa using e2) e3 (by simpa using e4) e5 (by simpa using e6) (by simpa using e7) (by simpa using e8) (by omega) (by omega) hd0 hd1 fun h' tk' okn' F' N' NU' => ?_
    exact ret _ _ okn' _ F' N' NU' (known_snoc KN hop hnone h1) (typed_snoc Ty pre hj3 hjd hD) (by simp) (List.prefix_append _ _) (by simp)
end
end
section
open PySem PySem.W PySem.Calls PyProof.Rows
/-- what an operation is asked of: its parts, its data, the width that it is due -/
inductive OpC (Z : List (Addr × Obj)) (ts : List Tm) (sw : List Int) : Str → List Value → List Int → EK → Value → Int → Prop
  | extr {e0 dt : Addr} {t wx high low : Int} {tt tw th tlo : Tok} {x2 x3 : Value} {q : Nat} : (e0, LO [.int t tt, .int wx tw, x2, x3] q) ∈ Z → wof ts sw t wx → EntBits Z wx x2 x3 → (dt, tupO [.int high th, .int low tlo]) ∈ Z →
      0 ≤ low → low ≤ high → high < wx → OpC Z ts sw (Str.ofString "extract") [.ref e0] [t] (.t [high, low]) (.ref dt) (high - low + 1)
  | conc {e0 e1 : Addr} {t wx t1 wx1 : Int} {tt tw tt1 tw1 tz : Tok} {x2 x3 y2 y3 : Value} {q q1 : Nat} : (e0, LO [.int t tt, .int wx tw, x2, x3] q) ∈ Z → wof ts sw t wx → EntBits Z wx x2 x3 →
      (e1, LO [.int t1 tt1, .int wx1 tw1, y2, y3] q1) ∈ Z → wof ts sw t1 wx1 → EntBits Z wx1 y2 y3 → OpC Z ts sw (Str.ofString "concat") [.ref e0, .ref e1] [t, t1] (.i 0) (.int 0 tz) (wx + wx1)
  | zero {e0 : Addr} {t wx many : Int} {tt tw tz : Tok} {x2 x3 : Value} {q : Nat} : (e0, LO [.int t tt, .int wx tw, x2, x3] q) ∈ Z → wof ts sw t wx → EntBits Z wx x2 x3 → 0 ≤ many →
      OpC Z ts sw (Str.ofString "zero_extend") [.ref e0] [t] (.i many) (.int many tz) (wx + many)
  | sign {e0 : Addr} {t wx many : Int} {tt tw tz : Tok} {x2 x3 : Value} {q : Nat} : (e0, LO [.int t tt, .int wx tw, x2, x3] q) ∈ Z → wof ts sw t wx → EntBits Z wx x2 x3 → 0 ≤ many →
      OpC Z ts sw (Str.ofString "sign_extend") [.ref e0] [t] (.i many) (.int many tz) (wx + many)
theorem OpC.isOp {Z : List (Addr × Obj)} {ts : List Tm} {sw : List Int} {op : Str} {prt : List Value} {al : List Int} {dk : EK} {dv : Value} {due : Int} (x : OpC Z ts sw op prt al dk dv due) : isOp op := by
  induction x
  · exact .inl rfl
  · exact .inr (.inl rfl)
  · exact .inr (.inr (.inl rfl))
  · exact .inr (.inr (.inr rfl))
theorem isOp.ok {op : Str} (x : isOp op) : PyData.strOk op = true := by
  rcases x with rfl | rfl | rfl | rfl <;> decide +kernel
theorem OpC.due {Z : List (Addr × Obj)} {ts : List Tm} {sw : List Int} {op : Str} {prt : List Value} {al : List Int} {dk : EK} {dv : Value} {due : Int} (x : OpC Z ts sw op prt al dk dv due) : DueIs ts sw op al dk due := by
  induction x with
  | extr _ _ _ _ _ _ _ => exact .inl ⟨rfl, _, _, _, rfl, rfl, rfl⟩
  | conc _ w1 _ _ w2 _ => exact .inr (.inl ⟨rfl, _, _, _, _, rfl, w1, w2, rfl⟩)
  | zero _ w1 _ _ => exact .inr (.inr ⟨.inl rfl, _, _, _, rfl, rfl, w1, rfl⟩)
  | sign _ w1 _ _ => exact .inr (.inr ⟨.inr rfl, _, _, _, rfl, rfl, w1, rfl⟩)
theorem OpC.key {Z : List (Addr × Obj)} {ts : List Tm} {sw : List Int} {op : Str} {prt : List Value} {al : List Int} {dk : EK} {dv : Value} {due : Int} (x : OpC Z ts sw op prt al dk dv due) : EKin Z dk dv := by
  induction x with
  | extr _ _ _ g _ _ _ => exact ⟨_, _, rfl, g, .cons _ _ (.cons _ _ .nil)⟩
  | conc _ _ _ _ _ _ => exact ⟨_, rfl⟩
  | zero _ _ _ _ => exact ⟨_, rfl⟩
  | sign _ _ _ _ => exact ⟨_, rfl⟩
/-- the entries of the parts, with their terms' numbers -/
noncomputable def PE (Z : List (Addr × Obj)) (v : Value) (t : Int) : Prop := ∃ (e : Addr) (tt : Tok) (wx : Int) (tw : Tok) (x2 x3 : Value) (q : Nat), v = .ref e ∧ (e, LO [.int t tt, .int wx tw, x2, x3] q) ∈ Z ∧ EntBits Z wx x2 x3
theorem OpC.pe {Z : List (Addr × Obj)} {ts : List Tm} {sw : List Int} {op : Str} {prt : List Value} {al : List Int} {dk : EK} {dv : Value} {due : Int} (x : OpC Z ts sw op prt al dk dv due) : Paired (PE Z) prt al ∧ prt.length ≤ 2 := by
  induction x with
  | extr g _ b _ _ _ _ => exact ⟨.cons ⟨_, _, _, _, _, _, _, rfl, g, b⟩ .nil, by simp⟩
  | conc g _ b g1 _ b1 => exact ⟨.cons ⟨_, _, _, _, _, _, _, rfl, g, b⟩ (.cons ⟨_, _, _, _, _, _, _, rfl, g1, b1⟩ .nil), by simp⟩
  | zero g _ b _ => exact ⟨.cons ⟨_, _, _, _, _, _, _, rfl, g, b⟩ .nil, by simp⟩
  | sign g _ b _ => exact ⟨.cons ⟨_, _, _, _, _, _, _, rfl, g, b⟩ .nil, by simp⟩
theorem LO_inj {vs us : List Value} {n q : Nat} (h : LO vs n = LO us q) : vs = us := by
  have e3 := congrArg Obj.data h
  injection e3 with ha _
  simpa using ha
theorem pe_det {Z : List (Addr × Obj)} {h : Heap} (hN : ∀ p ∈ Z, h.get? p.1 = some p.2) {e : Addr} {x0 x1 x2 x3 : Value} {q : Nat} {t : Int} (hm : (e, LO [x0, x1, x2, x3] q) ∈ Z) (x : PE Z (.ref e) t) : ∃ tt, x0 = .int t tt := by
  obtain ⟨e', tt, wx, tw, y2, y3, q', h1, h2, _⟩ := x
  obtain rfl : e = e' := by injection h1
  have e1 : h.get? e = some (LO [x0, x1, x2, x3] q) := hN _ hm
  have e2 : h.get? e = some (LO _ q') := hN _ h2
  rw [e1] at e2
  have := LO_inj (Option.some.inj e2)
  simp only [List.cons.injEq] at this
  exact ⟨tt, this.1⟩
/-- r is the number of the entry v -/
noncomputable def GE (Z : List (Addr × Obj)) (v r : Value) : Prop := ∀ t, PE Z v t → ∃ tt, r = .int t tt
/-- r is what the entry v holds of bits -/
noncomputable def GB (Z : List (Addr × Obj)) (v r : Value) : Prop := ∃ (e : Addr) (x0 x1 x3 : Value) (q : Nat), v = .ref e ∧ (e, LO [x0, x1, r, x3] q) ∈ Z
/-- the numbers read off -/
theorem pe_ints {Z : List (Addr × Obj)} {prt : List Value} {al : List Int} {ys : List Value} (x : Paired (PE Z) prt al) (y : Paired (GE Z) prt ys) : IntsAre ys al := by
  induction x generalizing ys with
  | nil => cases y; exact .nil
  | cons a _ ih =>
    cases y with
    | cons b r' =>
      obtain ⟨tt, rfl⟩ := b _ a
      exact .cons _ _ (ih r')
theorem pe_mem {Z : List (Addr × Obj)} {prt : List Value} {al : List Int} (x : Paired (PE Z) prt al) : ∀ v ∈ prt, ∃ t, PE Z v t := by
  induction x with
  | nil => exact fun _ h => absurd h List.not_mem_nil
  | cons a _ ih => exact all_cons ⟨_, a⟩ ih
/-- the bits read off: nothing, or a list of bits -/
noncomputable def BitsOf (Z : List (Addr × Obj)) (r : Value) : Prop := r = .none ∨ ∃ (bl : Addr) (bv : List Value) (bn : Nat) (bs : List Int), r = .ref bl ∧ (bl, LO bv bn) ∈ Z ∧ IntsAre bv bs
theorem EntBits.of {Z : List (Addr × Obj)} {wx : Int} {x2 x3 : Value} (x : EntBits Z wx x2 x3) : BitsOf Z x2 := by
  rcases x with x | ⟨bl, bv, bn, bs, tx, h1, h2, h3, _⟩
  · exact .inl x.1
  · exact .inr ⟨bl, bv, bn, bs, h1, h2, h3⟩
theorem bits_reads {Z : List (Addr × Obj)} {h : Heap} (hN : ∀ p ∈ Z, h.get? p.1 = some p.2) {ys : List Value} (hy : ∀ y ∈ ys, BitsOf Z y) : ∃ xs as, ReadsAll h ys xs as ∧ PyData.canLayAll0 xs = true ∧ (xs.any fun y => PyData.eqv y .none) = (ys.any fun y => y matches .none) := by
  induction ys with
  | nil => exact ⟨[], [], .nil, rfl, rfl⟩
  | cons y r ih =>
    obtain ⟨xs, as, h1, h2, h3⟩ := ih fun z hz => hy z (.tail _ hz)
    rcases hy y (.head _) with rfl | ⟨bl, bv, bn, bs, rfl, hb, hi⟩
    · exact ⟨.none :: xs, _, .cons .none h1, by simp [PyData.canLayAll0, PyData.canLay0, h2], by simp [PyData.eqv]⟩
    · exact ⟨.list (bs.map .int) :: xs, _, .cons (.list (hN _ hb) rfl rfl (by simpa using ints_reads hi)) h1, by simp [PyData.canLayAll0, PyData.canLay0, lay_ints, h2], by simp [PyData.eqv, h3]⟩
theorem notin_none {prog : Program} {w : World} {A : Around} {E : Value → Shared → Prop} {s : Shared} {h₀ : Heap} {L D : Addr} {Z news : List (Addr × Obj)} {ys : List Value} {n : Nat} {Q : Value → Shared → Prop} (hu : A.units + 64 < cLine) (N : News h₀ L s.heap news) (hm : (D, LO ys n) ∈ news) (hZ : ∀ p ∈ Z, p ∈ news) (hy : ∀ y ∈ ys, BitsOf Z y)
    (h : Q (.bool (!ys.any fun y => y matches .none)) s) : wpAny (model prog w) A (compareOp .NotIn .none (.ref D)) Q E s := by
  obtain ⟨xs, as, h1, h2, h3⟩ := bits_reads (h := s.heap) (fun p hp => (N p (hZ p hp)).1) hy
  refine SeqAt.notIn_list_reads (xs := xs) (d := .none) (as := D :: as) (bs := []) (.list (N _ hm).1 rfl rfl (by simpa using h1)) .none h2 rfl ?_ (by rw [h3]; exact h)
  have : min (PyData.depthAll xs) (PyData.none).depth ≤ 2 := Nat.le_trans (Nat.min_le_right _ _) (by simp [PyData.depth])
  omega
end
section
open PySem PySem.W PySem.Calls PyProof.Rows
theorem WF.mono {w : World} {c : BA} {fd cl pl kn wd : Nat} {bl : Int} {lap : Nat} {b : BSt} {Z Z' : List (Addr × Obj)} {ts : List Tm} {sw : List Int} {ofd okn ow : Obj} {pv : List Value} {ks : List (List EK × Addr × Value)}
    (x : WF w c fd cl pl kn wd bl lap b Z ts sw ofd okn ow pv ks) (hs : ∀ p ∈ Z, p ∈ Z') (ZO : c.Off Z') (zfd : ∀ p ∈ Z', p.1 ≠ fd) (zpl : ∀ p ∈ Z', p.1 ≠ pl) (zkn : ∀ p ∈ Z', p.1 ≠ kn) (zwd : ∀ p ∈ Z', p.1 ≠ wd) : WF w c fd cl pl kn wd bl lap b Z' ts sw ofd okn ow pv ks :=
  ⟨ZO, zfd, zpl, zkn, zwd, x.hfd, x.hwd, x.I.mono hs, fun v hv => (x.hP v hv).mono hs (List.prefix_refl _) (List.prefix_refl _), x.hsm.mono hs, x.Ty, x.K, x.NU.mono hs, x.sz⟩
/-- WF with a fresh object more -/
theorem WF.fresh {w : World} {c : BA} {fd cl pl kn wd : Nat} {bl : Int} {lap : Nat} {b : BSt} {Z : List (Addr × Obj)} {ts : List Tm} {sw : List Int} {ofd okn ow o : Obj} {pv : List Value} {ks : List (List EK × Addr × Value)} {a : Nat}
    (x : WF w c fd cl pl kn wd bl lap b Z ts sw ofd okn ow pv ks) (O : c.Ord) (OX : fd < cl ∧ cl < c.bd ∧ c.bv < pl ∧ pl < wd ∧ wd < kn) (ha : kn < a) : WF w c fd cl pl kn wd bl lap b ((a, o) :: Z) ts sw ofd okn ow pv ks := by
  obtain ⟨f1, _, f3, f4, f5, f6⟩ := ox5 (oxs O OX) ha
  exact x.mono in1 (x.ZO.above O f6) (ne_cons (Nat.ne_of_gt f1) x.zfd) (ne_cons (Nat.ne_of_gt f3) x.zpl) (ne_cons (Nat.ne_of_gt f5) x.zkn) (ne_cons (Nat.ne_of_gt f4) x.zwd)
/-- the pool with one more entry -/
theorem WF.push {w : World} {c : BA} {fd cl pl kn wd en : Nat} {bl : Int} {lap : Nat} {b : BSt} {Z : List (Addr × Obj)} {ts : List Tm} {sw : List Int} {ofd okn ow : Obj} {pv : List Value} {ks : List (List EK × Addr × Value)} {r9 due : Int} {tr9 td : Tok} {x2 x3 : Value} {q9 : Nat}
    (WX : WF w c fd cl pl kn wd bl (lap + 1) b Z ts sw ofd okn ow pv ks) (O : c.Ord) (OX : fd < cl ∧ cl < c.bd ∧ c.bv < pl ∧ pl < wd ∧ wd < kn) (hen : kn < en) (hpl : pv.length ≤ 10 + lap) (W0 : wof ts sw r9 due) (EB : EntBits Z due x2 x3) :
    WF w c fd cl pl kn wd bl (lap + 1) b ((en, LO [.int r9 tr9, .int due td, x2, x3] q9) :: Z) ts sw ofd okn ow (pv ++ [.ref en]) ks := by
  have WN := WX.fresh (o := LO [.int r9 tr9, .int due td, x2, x3] q9) O OX hen
  exact ⟨WN.ZO, WN.zfd, WN.zpl, WN.zkn, WN.zwd, WN.hfd, WN.hwd, WN.I, fun v hv => by
      rcases List.mem_append.mp hv with hv | hv
      · exact WN.hP v hv
      · rcases List.mem_singleton.mp hv with rfl
        exact ⟨en, r9, tr9, due, td, x2, x3, q9, rfl, .head _, W0, EB.mono fun p hp => .tail _ hp⟩, by
      obtain ⟨e, a0, a1, a2, a3, q, g1, g2, g3⟩ := WN.hsm
      exact ⟨e, a0, a1, a2, a3, q, List.mem_append_left _ g1, g2, g3⟩, WN.Ty, WN.K, WN.NU, by rw [List.length_append]; exact Nat.succ_le_succ hpl, WN.sz.2⟩
theorem made_wof {ts ts9 : List Tm} {sw9 : List Int} {r : Nat} {op : Str} {al : List Int} {dk : EK} {due : Int} (M : Made ts ts9 sw9 r op al due dk) : wof ts9 sw9 r due := by
  obtain ⟨h1, j, h3, hj, h2, _⟩ := M
  exact ⟨by omega, _, by simpa using h2, by show (0 : Int) ≤ (j : Int); omega, by show sw9[(j : Int).toNat]? = _; simpa using hj⟩
end
section
open PySem PySem.W PySem.Calls PyProof.Rows
/-- the same with the bits that come of it -/
inductive OpB (Z : List (Addr × Obj)) : Str → List Value → Value → Int → List Int → Prop
  | extr {e0 dt b0 : Addr} {wx high low : Int} {tw th tlo tx : Tok} {x0 : Value} {q bn : Nat} {bv : List Value} {bs : List Int} : (e0, LO [x0, .int wx tw, .ref b0, .int (worth bs) tx] q) ∈ Z → (b0, LO bv bn) ∈ Z → IntsAre bv bs → Bits bs → (bs.length : Int) = wx → wx ≤ 24 →
      (dt, tupO [.int high th, .int low tlo]) ∈ Z → 0 ≤ low → low ≤ high → high < wx → OpB Z (Str.ofString "extract") [.ref e0] (.ref dt) (high - low + 1) (List.take (min (high + 1).toNat bs.length - low.toNat) (List.drop low.toNat bs))
  | conc {e0 e1 b0 b1 : Addr} {wx wx1 : Int} {tw tw1 tz tx ty : Tok} {x0 y0 : Value} {q q1 bn bn1 : Nat} {bv bv1 : List Value} {bs bs1 : List Int} : (e0, LO [x0, .int wx tw, .ref b0, .int (worth bs) tx] q) ∈ Z → (b0, LO bv bn) ∈ Z → IntsAre bv bs → Bits bs → (bs.length : Int) = wx → wx ≤ 24 →
      (e1, LO [y0, .int wx1 tw1, .ref b1, .int (worth bs1) ty] q1) ∈ Z → (b1, LO bv1 bn1) ∈ Z → IntsAre bv1 bs1 → Bits bs1 → (bs1.length : Int) = wx1 → wx1 ≤ 24 → OpB Z (Str.ofString "concat") [.ref e0, .ref e1] (.int 0 tz) (wx + wx1) (bs1 ++ bs)
  | zero {e0 b0 : Addr} {wx many : Int} {tw tz tx : Tok} {x0 : Value} {q bn : Nat} {bv : List Value} {bs : List Int} : (e0, LO [x0, .int wx tw, .ref b0, .int (worth bs) tx] q) ∈ Z → (b0, LO bv bn) ∈ Z → IntsAre bv bs → Bits bs → (bs.length : Int) = wx → wx ≤ 24 → 0 ≤ many → wx + many < 25 →
      OpB Z (Str.ofString "zero_extend") [.ref e0] (.int many tz) (wx + many) (bs ++ (List.replicate many.toNat [0]).flatten)
  | sign {e0 b0 : Addr} {wx many : Int} {tw tz tx : Tok} {x0 : Value} {q bn : Nat} {bv : List Value} {bs : List Int} : (e0, LO [x0, .int wx tw, .ref b0, .int (worth bs) tx] q) ∈ Z → (b0, LO bv bn) ∈ Z → IntsAre bv bs → Bits bs → (bs.length : Int) = wx → wx ≤ 24 → 1 ≤ wx → 0 ≤ many → wx + many < 25 →
      OpB Z (Str.ofString "sign_extend") [.ref e0] (.int many tz) (wx + many) (bs ++ (List.replicate many.toNat [bs.getD (-1 + (bs.length : Int)).toNat 0]).flatten)
theorem OpB.mono {Z Z' : List (Addr × Obj)} (hs : ∀ p ∈ Z, p ∈ Z') {op : Str} {prt : List Value} {dv : Value} {due : Int} {bs : List Int} (x : OpB Z op prt dv due bs) : OpB Z' op prt dv due bs := by
  induction x with
  | extr a1 a2 a3 a4 a5 a6 a7 a8 a9 a10 => exact .extr (hs _ a1) (hs _ a2) a3 a4 a5 a6 (hs _ a7) a8 a9 a10
  | conc a1 a2 a3 a4 a5 a6 a7 a8 a9 b1 b2 b3 => exact .conc (hs _ a1) (hs _ a2) a3 a4 a5 a6 (hs _ a7) (hs _ a8) a9 b1 b2 b3
  | zero a1 a2 a3 a4 a5 a6 a7 a8 => exact .zero (hs _ a1) (hs _ a2) a3 a4 a5 a6 a7 a8
  | sign a1 a2 a3 a4 a5 a6 a7 a8 a9 => exact .sign (hs _ a1) (hs _ a2) a3 a4 a5 a6 a7 a8 a9
theorem bit_last {bs : List Int} (h : Bits bs) (hl : 0 < bs.length) : bs.getD (-1 + (bs.length : Int)).toNat 0 = 0 ∨ bs.getD (-1 + (bs.length : Int)).toNat 0 = 1 := by
  obtain ⟨v, hv, e, _⟩ := last_bit h hl
  rw [e]; exact hv
theorem len_extr {n : Nat} {wx low high : Int} (a5 : (n : Int) = wx) (a8 : 0 ≤ low) (a9 : low ≤ high) (a10 : high < wx) : ((min (min (high + 1).toNat n - low.toNat) (n - low.toNat) : Nat) : Int) = high - low + 1 := by
  have g : high < (n : Int) := by rw [a5]; exact a10
  rw [cut_len a8 a9 g, Nat.min_eq_left (cut_le a8 a9 g), Int.toNat_of_nonneg]
  exact Int.add_nonneg (Int.sub_nonneg_of_le a9) (by decide)
theorem len_two {n k : Nat} {wx y : Int} (a5 : (n : Int) = wx) (b : (k : Int) = y) : ((n + k : Nat) : Int) = wx + y := by rw [← a5, ← b]; rfl
theorem OpB.bits {Z : List (Addr × Obj)} {op : Str} {prt : List Value} {dv : Value} {due : Int} {bs : List Int} (x : OpB Z op prt dv due bs) : Bits bs ∧ (bs.length : Int) = due := by
  induction x with
  | extr a1 a2 a3 a4 a5 a6 a7 a8 a9 a10 => exact ⟨(a4.drop _).take _, by rw [List.length_take, List.length_drop]; exact len_extr a5 a8 a9 a10⟩
  | conc a1 a2 a3 a4 a5 a6 a7 a8 a9 b1 b2 b3 => exact ⟨b1.append a4, by rw [List.length_append, Nat.add_comm]; exact len_two a5 b2⟩
  | zero a1 a2 a3 a4 a5 a6 a7 a8 => rw [flat_rep]; exact ⟨a4.append (Bits.rep (.inl rfl) _), by rw [List.length_append, List.length_replicate]; exact len_two a5 (Int.toNat_of_nonneg a7)⟩
  | sign a1 a2 a3 a4 a5 a6 a7 a8 a9 => rw [flat_rep]; exact ⟨a4.append (Bits.rep (bit_last a4 (Int.ofNat_lt.mp (a5 ▸ a7))) _), by rw [List.length_append, List.length_replicate]; exact len_two a5 (Int.toNat_of_nonneg a8)⟩
theorem ent_some {Z : List (Addr × Obj)} {wx : Int} {x2 x3 : Value} (x : EntBits Z wx x2 x3) (h : x2 ≠ .none) : ∃ bl bv bn bs tx, x2 = .ref bl ∧ (bl, LO bv bn) ∈ Z ∧ IntsAre bv bs ∧ Bits bs ∧ (bs.length : Int) = wx ∧ x3 = .int (worth bs) tx ∧ 1 ≤ wx ∧ wx ≤ 24 := by
  rcases x with x | x
  · exact absurd x.1 h
  · exact x
theorem OpC.b {Z : List (Addr × Obj)} {ts : List Tm} {sw : List Int} {op : Str} {prt : List Value} {al : List Int} {dk : EK} {dv : Value} {due : Int} (x : OpC Z ts sw op prt al dk dv due) (hd : due < 25)
    (hn : ∀ e x0 x1 x2 x3 q, .ref e ∈ prt → (e, LO [x0, x1, x2, x3] q) ∈ Z → x2 ≠ .none) : ∃ bs, OpB Z op prt dv due bs := by
  induction x with
  | extr g _ b g2 h1 h2 h3 =>
    obtain ⟨bl, bv, bn, bs, tx, rfl, c2, c3, c4, c5, rfl, c7, c8⟩ := ent_some b (hn _ _ _ _ _ _ (.head _) g)
    exact ⟨_, .extr g c2 c3 c4 c5 c8 g2 h1 h2 h3⟩
  | conc g _ b g1 _ b1 =>
    obtain ⟨bl, bv, bn, bs, tx, rfl, c2, c3, c4, c5, rfl, c7, c8⟩ := ent_some b (hn _ _ _ _ _ _ (.head _) g)
    obtain ⟨bl', bv', bn', bs', tx', rfl, d2, d3, d4, d5, rfl, d7, d8⟩ := ent_some b1 (hn _ _ _ _ _ _ (.tail _ (.head _)) g1)
    exact ⟨_, .conc g c2 c3 c4 c5 c8 g1 d2 d3 d4 d5 d8⟩
  | zero g _ b h =>
    obtain ⟨bl, bv, bn, bs, tx, rfl, c2, c3, c4, c5, rfl, c7, c8⟩ := ent_some b (hn _ _ _ _ _ _ (.head _) g)
    exact ⟨_, .zero g c2 c3 c4 c5 c8 h hd⟩
  | sign g _ b h =>
    obtain ⟨bl, bv, bn, bs, tx, rfl, c2, c3, c4, c5, rfl, c7, c8⟩ := ent_some b (hn _ _ _ _ _ _ (.head _) g)
    exact ⟨_, .sign g c2 c3 c4 c5 c8 c7 h hd⟩
theorem ints_at {vs : List Value} {bs : List Int} (h : IntsAre vs bs) {k : Int} (h0 : 0 ≤ k) (h1 : k < bs.length) : ∃ t, vs[k.toNat]? = some (.int (bs.getD k.toNat 0) t) := by
  have hl := h.length
  obtain ⟨n, t, e, hk⟩ := IntsAre.at h k.toNat (vs[k.toNat]'(by rw [hl]; exact tlt h0 h1)) (List.getElem?_eq_getElem _)
  refine ⟨t, ?_⟩
  rw [List.getElem?_eq_getElem (by rw [hl]; exact tlt h0 h1), e, List.getD_eq_getElem?_getD, hk]
  rfl
noncomputable abbrev bitG (bs : List Int) (l : List Int) (k : Int) : List Int := if bs.getD k.toNat 0 = 1 then l ++ [2 ^ k.toNat] else l
theorem fold_worth {bs : List Int} (h : Bits bs) : ∀ n, n ≤ bs.length → ((rangeKs 0 n).foldl (bitG bs) []).sum = worth (bs.take n)
  | 0, _ => by simp [rangeKs, worth]
  | n + 1, hn => by
    have e : rangeKs 0 (n + 1) = rangeKs 0 n ++ [(n : Int)] := by simp [rangeKs, List.range_succ]
    have hx : bs[n]? = some bs[n] := List.getElem?_eq_getElem (by omega)
    have hb := h bs[n] (List.getElem_mem _)
    rw [e, List.foldl_append, List.take_succ, hx, Option.toList_some, worth_append, List.length_take, Nat.min_eq_left (by omega), ← fold_worth h n (by omega)]
    simp only [List.foldl_cons, List.foldl_nil, worth, bitG, Int.toNat_natCast, List.getD_eq_getElem?_getD, hx, Option.getD_some]
    rcases hb with hb | hb <;> rw [hb] <;> simp
theorem gb_eq {Z : List (Addr × Obj)} {h : Heap} (hN : ∀ p ∈ Z, h.get? p.1 = some p.2) {e : Addr} {y x0 x1 x2 x3 : Value} {q : Nat} (a : GB Z (.ref e) y) (hz : (e, LO [x0, x1, x2, x3] q) ∈ Z) : y = x2 := by
  obtain ⟨e', y0, y1, y3, q', h1, h2⟩ := a
  cases h1
  have e2 : some (LO [x0, x1, x2, x3] q) = some (LO [y0, y1, y, y3] q') := (hN _ hz).symm.trans (hN _ h2)
  have := LO_inj (Option.some.inj e2)
  injection this with _ this
  injection this with _ this
  injection this with this _
  exact this.symm
theorem gb_some {Z : List (Addr × Obj)} {h : Heap} (hN : ∀ p ∈ Z, h.get? p.1 = some p.2) {prt ys : List Value} (x : Paired (GB Z) prt ys) (hy : (ys.any fun y => y matches .none) = false) : ∀ e x0 x1 x2 x3 q, .ref e ∈ prt → (e, LO [x0, x1, x2, x3] q) ∈ Z → x2 ≠ .none := by
  induction x with
  | nil => exact fun _ _ _ _ _ _ hm => absurd hm List.not_mem_nil
  | cons a _ ih =>
    rw [List.any_cons, Bool.or_eq_false_iff] at hy
    intro e x0 x1 x2 x3 q hm hz
    rcases List.mem_cons.mp hm with rfl | hm
    · rw [← gb_eq hN a hz]
      rintro rfl
      exact absurd hy.1 (by decide)
    · exact ih hy.2 _ _ _ _ _ _ hm hz
theorem gb_bits {Z : List (Addr × Obj)} {h : Heap} (hN : ∀ p ∈ Z, h.get? p.1 = some p.2) {prt ys : List Value} (x : Paired (GB Z) prt ys) (hp : ∀ v ∈ prt, ∃ t, PE Z v t) : ∀ y ∈ ys, BitsOf Z y := by
  induction x with
  | nil => exact fun _ h => absurd h List.not_mem_nil
  | cons a _ ih =>
    refine all_cons ?_ (ih fun v hv => hp v (.tail _ hv))
    obtain ⟨t, e', tt, wx, tw, x2, x3, q, rfl, h3, h4⟩ := hp _ (.head _)
    rw [gb_eq hN a h3]
    exact h4.of
theorem nc {h₀ h : Heap} {L : Addr} {Y W : List (Addr × Obj)} {x : Addr × Obj} (N : News h₀ L h Y) (M : News h₀ L h W) (hm : x ∈ Y) : News h₀ L h (x :: W) := fun p hp => by
  rcases List.mem_cons.mp hp with rfl | hp
  · exact N _ hm
  · exact M p hp
section
variable {w : World} {mean : ExcName → Option Value} {mg mb : Str → Option Value} {dp un : Nat} {gd : Option (List Code)} {env : Env} {outer : List Env} {A₀ : Around} {base h₀ : Heap} {L : Addr} {m : Str → Option Value} {s : Shared} {Q E : Value → Shared → Prop}
    {Y : List (Addr × Obj)} {pa : Addr} {op : Str} {prt : List Value} {dv : Value} {due wd : Int} {bs : List Int} {q9 : Nat} {top twd : Tok}
theorem listed_any (B : Below A₀ base outer h₀) (F : Fr h₀ L s.heap m) (X : (heap w.params).In h₀) (T : Top view (looseW view []) mean mg mb h₀)
    (hf : env.frame = some L) (hk : env.scope.kind = .function) (hdp : dp ≤ 440) (hun : un ≤ 470)
    (N : News h₀ L s.heap Y) (hpa : (pa, LO prt q9) ∈ Y) (OB : OpB Y op prt dv due bs)
    (ret : ∀ D h' tk' ys q, Fr h₀ L h' m → News h₀ L h' ((D, LO ys q) :: Y) → IntsAre ys bs → (∀ p ∈ Y, @LT.lt Nat _ p.1 D) → Q (.ref D) { s with heap := h', toks := tk' }) :
    wpAny (model PySem.Challenge.rw_nz0152_01.row.prog w) { handled := none, depth := dp, frames := some (env :: outer), guards := gd, units := un } (call (.ref 719) [.str op top, .ref pa, dv]) Q E s := by
  induction OB with
  | extr a1 a2 a3 a4 a5 a6 a7 a8 a9 a10 =>
    refine listed_extr (Y := Y) B F X T hf hk (lele hdp rfl) (lele hun rfl) (nc N (nc N (nc N (nc N N a7) a2) a1) hpa) a3 (by omega) a8 a9 (by omega) fun D h' tk' ys q F' N' I' l' => ret D h' tk' ys q F' (fun p hp => N' p (sub_cons mem0 in5 p hp)) I' fun p hp => l' p (in4 p hp)
  | conc a1 a2 a3 a4 a5 a6 a7 a8 a9 b1 b2 b3 =>
    refine listed_conc (Y := Y) B F X T hf hk (lele hdp rfl) (lele hun rfl) (nc N (nc N (nc N (nc N (nc N N a8) a2) a7) a1) hpa) a3 (by omega) a9 (by omega) fun D h' tk' ys q F' N' I' l' => ret D h' tk' ys q F' (fun p hp => N' p (sub_cons mem0 in6 p hp)) I' fun p hp => l' p (in5 p hp)
  | zero a1 a2 a3 a4 a5 a6 a7 a8 =>
    refine listed_z (Y := Y) B F X T hf hk (lele hdp rfl) (lele hun rfl) (nc N (nc N (nc N N a2) a1) hpa) a3 (by omega) a7 (by omega) fun D h' tk' ys q F' N' I' l' => ret D h' tk' ys q F' (fun p hp => N' p (sub_cons mem0 in4 p hp)) I' fun p hp => l' p (in3 p hp)
  | sign a1 a2 a3 a4 a5 a6 a7 a8 a9 =>
    refine listed_s (Y := Y) B F X T hf hk (lele hdp rfl) (lele hun rfl) (nc N (nc N (nc N N a2) a1) hpa) a3 (by omega) a8 (by omega) (by omega) fun D h' tk' ys q F' N' I' l' => ret D h' tk' ys q F' (fun p hp => N' p (sub_cons mem0 in4 p hp)) I' fun p hp => l' p (in3 p hp)
theorem worth_25 {bs : List Int} (h : Bits bs) (hl : bs.length ≤ 24) : 0 ≤ worth bs ∧ worth bs < 2 ^ 25 := by
  have r := worth_range h
  refine ⟨r.1, Int.lt_of_lt_of_le r.2 ?_⟩
  have : (2 : Nat) ^ bs.length ≤ 2 ^ 25 := Nat.pow_le_pow_right (by decide) (by omega)
  exact_mod_cast this
theorem reck_any (B : Below A₀ base outer h₀) (F : Fr h₀ L s.heap m) (X : (heap w.params).In h₀) (T : Top view (looseW view []) mean mg mb h₀)
    (hf : env.frame = some L) (hk : env.scope.kind = .function) (hdp : dp ≤ 440) (hun : un ≤ 470)
    (N : News h₀ L s.heap Y) (hpa : (pa, LO prt q9) ∈ Y) (OB : OpB Y op prt dv due bs)
    (ret : ∀ h' tk' t, Fr h₀ L h' m → News h₀ L h' Y → Q (.int (worth bs) t) { s with heap := h', toks := tk' }) :
    wpAny (model PySem.Challenge.rw_nz0152_01.row.prog w) { handled := none, depth := dp, frames := some (env :: outer), guards := gd, units := un } (call (.ref 712) [.str op top, .ref pa, dv, .int wd twd]) Q E s := by
  induction OB with
  | extr a1 a2 a3 a4 a5 a6 a7 a8 a9 a10 =>
    have r := worth_25 a4 (by omega)
    refine reck_extr (Y := Y) B F X T hf hk hdp hun (nc N (nc N (nc N N a7) a1) hpa) a8 a9 (by omega) r.1 r.2 fun h' tk' t F' N' => ?_
    · rw [val_extr a4 a8 a9 (by omega)]
      exact ret h' tk' t F' fun p hp => N' p (.tail _ (.tail _ (.tail _ hp)))
  | conc a1 a2 a3 a4 a5 a6 a7 a8 a9 b1 b2 b3 =>
    have r := worth_25 a4 (by omega)
    have r1 := worth_25 b1 (by omega)
    refine reck_conc (Y := Y) B F X T hf hk hdp hun (nc N (nc N (nc N N a7) a1) hpa) (by omega) (by omega) r.1 r.2 r1.1 r1.2 fun h' tk' t F' N' => ?_
    · rw [val_conc b1 b2.symm]
      exact ret h' tk' t F' fun p hp => N' p (.tail _ (.tail _ (.tail _ hp)))
  | zero a1 a2 a3 a4 a5 a6 a7 a8 =>
    refine reck_z (Y := Y) B F X T hf hk hdp hun (nc N (nc N N a1) hpa) fun h' tk' t F' N' => ?_
    · rw [val_zero]
      exact ret h' tk' t F' fun p hp => N' p (.tail _ (.tail _ hp))
  | sign a1 a2 a3 a4 a5 a6 a7 a8 a9 =>
    have r := worth_25 a4 (by omega)
    refine reck_s (Y := Y) B F X T hf hk hdp hun (nc N (nc N N a1) hpa) a8 a9 a7 r.1 r.2 (fun hc h' tk' t F' N' => ?_) fun hc h' tk' t F' N' => ?_
    · rw [val_sign1 a4 a5.symm (by omega) a8 hc]
      exact ret h' tk' t F' fun p hp => N' p (.tail _ (.tail _ hp))
    · rw [val_sign0 a4 a5.symm (by omega) a8 hc]
      exact ret h' tk' t F' fun p hp => N' p (.tail _ (.tail _ hp))
end
theorem body_of {K : Frag} {f : Addr} {oc9 oc' : Value} {od od' : Option Addr} {name qual name' qual' : Str} {params params' : Arguments} {body body' : List Stmt} {scope scope' : Scope} {dV kV doc pm dV' kV' doc' pm' : Value} {an an' : Option Addr} {cdv ct cdv' ct' : Value} {osl osl' : Array (Option Value)}
    (ho : K.lookup f = some ⟨oc9, od, .func (fnOf name qual params body scope dV kV doc pm an cdv ct), osl⟩) (h : K.lookup f = some ⟨oc', od', .func (fnOf name' qual' params' body' scope' dV' kV' doc' pm' an' cdv' ct'), osl'⟩) : body = body' ∧ scope = scope' ∧ qual = qual' ∧ cdv = cdv' := by
  have e := Option.some.inj (ho.symm.trans h)
  injection e with _ _ e _
  injection e with e
  simp only [fnOf, FuncData.mk.injEq] at e
  simp_all
noncomputable def Hid (P : Prop) : Prop := P
theorem hid {P : Prop} (h : P) : Hid P := h
theorem unhid {P : Prop} (h : Hid P) : P := h
theorem hid_lk {K : Frag} {f : Addr} {oc9 : Value} {od : Option Addr} {name qual : Str} {params : Arguments} {body : List Stmt} {scope : Scope} {dV kV doc pm : Value} {an : Option Addr} {cdv ct : Value} {osl : Array (Option Value)} (h : K.lookup f = some ⟨oc9, od, .func (fnOf name qual params body scope dV kV doc pm an cdv ct), osl⟩) : Hid (K.lookup f = some ⟨oc9, od, .func (fnOf name qual params body scope dV kV doc pm an cdv ct), osl⟩) := h
/-- a goal on a body known by its lookup, with the body itself -/
theorem body_at {K : Frag} {f : Addr} {oc9 oc' : Value} {od od' : Option Addr} {name qual name' qual' : Str} {params params' : Arguments} {body body' : List Stmt} {scope scope' : Scope} {dV kV doc pm dV' kV' doc' pm' : Value} {an an' : Option Addr} {cdv ct cdv' ct' : Value} {osl osl' : Array (Option Value)} {G : List Stmt → Scope → Str → Value → Prop} (h : K.lookup f = some ⟨oc9, od, .func (fnOf name qual params body scope dV kV doc pm an cdv ct), osl⟩) (h' : K.lookup f = some ⟨oc', od', .func (fnOf name' qual' params' body' scope' dV' kV' doc' pm' an' cdv' ct'), osl'⟩) (g : Hid (K.lookup f = some ⟨oc', od', .func (fnOf name' qual' params' body' scope' dV' kV' doc' pm' an' cdv' ct'), osl'⟩) → G body' scope' qual' cdv') : G body scope qual cdv := by
  obtain ⟨rfl, rfl, rfl, rfl⟩ := body_of h h'
  exact g h'
end
section
open PySem PySem.W PySem.Calls PyProof.Rows
section
variable {w : World} {A : Around} {h₀ : Heap} {L : Addr} {m : Str → Option Value} {E : Value → Shared → Prop} {s : Shared} {h g : Heap} {env : Env} {S : List (Addr × Obj) → Prop} {m₂ : Str → Option Value} {I C D en cc bl : Nat} {oI oC oE : Obj} {ys bv : List Value} {l bs : List Int} {k : Int} {t te : Tok} {a0 a1 a3 : Value} {q bn tk : Nat} {Y : List (Addr × Obj)}
  {p1 p2 p3 p4 p5 p6 p7 p8 p9 p10 : Pos}
noncomputable abbrev scK : Scope := { kind := .function, names := [(Str.ofString ".0", .local), (Str.ofString "k", .local), (Str.ofString "entry", .free)], isGenerator := false, isCoroutine := false }
noncomputable abbrev ctK (p1 p2 p3 p4 p5 p6 p7 : Pos) : PySem.Expr := .Compare (.Subscript (.Subscript (.Name (Str.ofString "entry") p1) (.Constant (.int 2) 0 p2) p3) (.Name (Str.ofString "k") p4) p5) [.Eq] [.Constant (.int 1) 0 p6] p7
noncomputable abbrev elK (p8 p9 p10 : Pos) : PySem.Expr := .BinOp (.Constant (.int 2) 0 p8) .Pow (.Name (Str.ofString "k") p9) p10
set_option maxHeartbeats 20000000 in
theorem bit_turn (F : Fr h₀ L h m) (N : News h₀ L h ((I, oI) :: (C, oC) :: (D, LCg.lst ys) :: (en, LO [a0, a1, .ref bl, a3] q) :: (cc, oE) :: (bl, LO bv bn) :: Y)) (hoE : oE.data = .cell (some (.ref en))) (hI : IntsAre ys l) (hC : LCg.NsObj oC m₂) (hx : m₂ (Str.ofString "k") = some (.int k t))
    (off : LCg.Off3 I C D ((en, LO [a0, a1, .ref bl, a3] q) :: (cc, oE) :: (bl, LO bv bn) :: Y)) (ne : (@Ne Nat I C) ∧ (@Ne Nat I D) ∧ (@Ne Nat C D)) (h0 : 0 ≤ k) (h1 : k < 100) (hget : bv[k.toNat]? = some (.int (bs.getD k.toNat 0) te)) (hS : ∀ l, S l) (hke : (compEnvC scK [(Str.ofString "entry", cc)] C env).kindOf (Str.ofString "entry") = some .cell) :
    wpAny (model PySem.Challenge.rw_nz0152_01.row.prog w) A (isTrue (ctK p1 p2 p3 p4 p5 p6 p7) (compEnvC scK [(Str.ofString "entry", cc)] C env) (eval (ctK p1 p2 p3 p4 p5 p6 p7) (compEnvC scK [(Str.ofString "entry", cc)] C env)))
      (fun b s' => if b = true then wpAny (model PySem.Challenge.rw_nz0152_01.row.prog w) A (eval (elK p8 p9 p10) (compEnvC scK [(Str.ofString "entry", cc)] C env)) (LCg.CompEnd h₀ L m { s with heap := h, toks := tk } I oI C oC D (LCg.lst ys) S (fun y news' => KCiEl ((en, LO [a0, a1, .ref bl, a3] q) :: (cc, oE) :: (bl, LO bv bn) :: Y) l (bitG bs l k) y news')) E s'
        else LCg.CompEnd h₀ L m { s with heap := h, toks := tk } I oI C oC D (LCg.lst ys) S (fun _ news' => KCiNo ((en, LO [a0, a1, .ref bl, a3] q) :: (cc, oE) :: (bl, LO bv bn) :: Y) l (bitG bs l k) news') Value.none s') E { s with heap := h, toks := tk } := by
  have mC : (C, oC) ∈ (I, oI) :: (C, oC) :: (D, LCg.lst ys) :: (en, LO [a0, a1, .ref bl, a3] q) :: (cc, oE) :: (bl, LO bv bn) :: Y := .tail _ (.head _)
  have mE : (en, LO [a0, a1, .ref bl, a3] q) ∈ (I, oI) :: (C, oC) :: (D, LCg.lst ys) :: (en, LO [a0, a1, .ref bl, a3] q) :: (cc, oE) :: (bl, LO bv bn) :: Y := .tail _ (.tail _ (.tail _ (.head _)))
  have mO : (cc, oE) ∈ (I, oI) :: (C, oC) :: (D, LCg.lst ys) :: (en, LO [a0, a1, .ref bl, a3] q) :: (cc, oE) :: (bl, LO bv bn) :: Y := .tail _ (.tail _ (.tail _ (.tail _ (.head _))))
  have mB : (bl, LO bv bn) ∈ (I, oI) :: (C, oC) :: (D, LCg.lst ys) :: (en, LO [a0, a1, .ref bl, a3] q) :: (cc, oE) :: (bl, LO bv bn) :: Y := .tail _ (.tail _ (.tail _ (.tail _ (.tail _ (.head _)))))
  refine wpAny_isTrue_Compare1 ?_
  refine Subscript_ ?_
  refine Subscript_ ?_
  refine lcf_cell N rfl mO hoE ?_ rfl hke
  refine wpAny_Constant_int ?_
  refine item_LO (by exact N) mE rfl (by decide) (by decide) ?_
  refine LCgL.ld_own (by exact N) mC hC hx ?_
  refine item_LO (by exact N) mB hget h0 (by omega) ?_
  refine wpAny_Constant_int ?_
  refine eq_int ?_
  refine wpAny_truthy_bool ?_
  by_cases hb : bs.getD k.toNat 0 = 1
  · rw [show ((bs.getD k.toNat 0) == 1) = true by simpa using hb, if_pos rfl]
    refine wpAny_BinOp ?_
    refine wpAny_Constant_int ?_
    refine LCgL.ld_own (by exact N) mC hC hx ?_
    refine pow_int_small h0 (by omega) (by decide) ?_
    exact LCg.CompEnd.intro (tk := _) F N _ (fun _ h => h) off (hS _) (kci_el (by simp only [bitG, if_pos hb]) rfl rfl)
  · rw [show ((bs.getD k.toNat 0) == 1) = false by simpa using hb, if_neg (by simp)]
    exact LCg.CompEnd.intro (tk := _) F N _ (fun _ h => h) off (hS _) (kci_no (by simp only [bitG, if_neg hb]) rfl)
end
end
section
open PySem PySem.W PySem.Calls PyProof.Rows
local macro_rules | `(tactic| walk_at "pad0") => `(tactic| skip)
local macro_rules | `(tactic| walk_at "eval ListComp") => `(tactic| ((with_reducible apply ListComp_rowsP); (case hfree => decide); (case hcell => decide); (case hkind => with_unfolding_all rfl); (case hnames => decide); (case hx => with_unfolding_all rfl); (case hs => intro _; with_unfolding_all rfl)))
local macro_rules | `(tactic| walk_at "CompSrcT") => `(tactic| (k_here; refine stop_in ?_))
local macro_rules | `(tactic| walk_at "compareOp NotEq int int") => `(tactic| (k_here; refine stop_in ?_))
section
variable {w : World} {mean : ExcName → Option Value} {mg mb : Str → Option Value} {dp un : Nat} {gd : Option (List Code)} {env : Env} {outer : List Env} {A₀ : Around} {base h₀ g₀ : Heap} {L : Addr} {m : Str → Option Value} {s : Shared} {Q E : Value → Shared → Prop}
    {c : BA} {b : BSt} {Z : List (Addr × Obj)} {ts ts9 : List Tm} {sw sw9 : List Int} {fd cl pl kn wd pa h₁ : Nat} {ofd okn ow oc oX : Obj} {vs pv prt : List Value} {ns al : List Int} {n pn lap q9 : Nat} {ks : List (List EK × Addr × Value)} {bl great bf due : Int} {to td : Tok} {dv cX : Value} {op : Str} {dk : EK} {r9 : Nat} {tr9 tbf : Tok}
    {fa : Addr} {cdx : Value} {name qual : Str} {params : Arguments} {body : List Stmt} {scope : Scope} {dV kV doc pm cdv ct oc9 : Value} {an od : Option Addr} {osl : Array (Option Value)} {qk : Flow → Shared → Prop} {L' : Addr}
theorem mem_drop4 {x y p q r s e : Addr × Obj} {Z : List (Addr × Obj)} (h : e ∈ x :: y :: p :: q :: r :: s :: Z) (h1 : e ≠ p) (h2 : e ≠ q) (h3 : e ≠ r) (h4 : e ≠ s) : e ∈ x :: y :: Z :=
  (List.mem_cons.mp h).elim (fun h => h ▸ mem0) fun h => (List.mem_cons.mp h).elim (fun h => h ▸ mem1) fun h => (List.mem_cons.mp h).elim (fun h => absurd h h1) fun h => (List.mem_cons.mp h).elim (fun h => absurd h h2) fun h => (List.mem_cons.mp h).elim (fun h => absurd h h3) fun h => (List.mem_cons.mp h).elim (fun h => absurd h h4) fun h => in2 _ h
set_option maxHeartbeats 20000000 in
theorem step_tail (ho : (heap w.params).lookup 736 = some ⟨oc9, od, .func (fnOf name qual params body scope dV kV doc pm an cdv ct), osl⟩)
    (B1 : Below ({ handled := none, depth := dp, frames := some outer, guards := gd, units := un } : Around) base outer h₀) (F1 : Fr h₀ L' s.heap m) (X1 : (heap w.params).In h₀) (T1 : Top view (looseW view []) mean mg mb h₀) (hdp : dp ≤ 420) (hun : un ≤ 410)
    (N1 : News h₀ L' s.heap ((L' + 1, oX) :: stepLed w.params c b fd cl pl kn wd ofd okn ow vs pv n pn Z)) (hoX : oX.data = .cell none) (O : c.Ord) (OX : fd < cl ∧ cl < c.bd ∧ c.bv < pl ∧ pl < wd ∧ wd < kn) (lo : (kn == sysModules) = false)
    (m1 : m (Str.ofString "op") = some (.str op to)) (m2 : m (Str.ofString "parts") = some (.ref pa)) (m3 : m (Str.ofString "data") = some dv) (m4 : m (Str.ofString "due") = some (.int due td)) (m5 : m (Str.ofString "world") = some (.ref wd)) (m6 : m (Str.ofString "pool") = some (.ref pl))
    (hpa : (pa, LO prt q9) ∈ Z) (OC : OpC Z ts sw op prt al dk dv due) (hdue : 1 ≤ due ∧ due ≤ 4096) (zL : ∀ p ∈ Z, p.1 ≠ (L' + 1 : Nat))
    (ZO : c.Off Z) (zfd : ∀ p ∈ Z, p.1 ≠ fd) (zpl : ∀ p ∈ Z, p.1 ≠ pl) (zkn : ∀ p ∈ Z, p.1 ≠ kn) (zwd : ∀ p ∈ Z, p.1 ≠ wd)
    (hwd : ow.IsDictOf (PySem.strKind PySem.Challenge.rw_nz0152_01.row.prog w) (worldKvs c pl kn bf (.int r9 tr9) tbf)) (hbf : bf = ts.length - 1)
    (I9 : BInv w Z b ts9 sw9) (Ty : Typed ts sw) (KN : Known ts ks) (NU : NuIs PySem.Challenge.rw_nz0152_01.row.prog w Z okn ks) (pre9 : sw <+: sw9) (MD : Made ts ts9 sw9 r9 op al due dk)
    (hpl : pv.length ≤ 10 + lap) (hlt : ts.length ≤ 10 + lap) (hls : sw9.length ≤ 11 + lap) (hks : ks.length ≤ lap) (hlap : lap ≤ 50) (h1t : 1 ≤ ts.length) (hwL : kn < L')
    (hfd : ∃ k tk tb, ofd.IsDictOf (PySem.strKind PySem.Challenge.rw_nz0152_01.row.prog w) (feedKvs cl k bl tk tb) ∧ 0 ≤ k ∧ k ≤ 10 + 10 * (lap + 1)) (hP : ∀ v ∈ pv, Ent Z ts sw v) (hsm : SomeBits Z pv)
    (ret : ∀ h' tk' pn' okn' ks' Z' pv', Fr h₀ L' h' m → News h₀ L' h' (stepLed w.params c b fd cl pl kn wd ofd okn' ow vs pv' n pn' Z') →
      WF w c fd cl pl kn wd bl (lap + 1) b Z' ts9 sw9 ofd okn' ow pv' ks' → (∀ p ∈ Z, p ∈ Z') → qk (.ret (.bool true)) { s with heap := h', toks := tk' }) :
    wpAny (model PySem.Challenge.rw_nz0152_01.row.prog w) (({ handled := none, depth := dp, frames := some outer, guards := gd, units := un } : Around).deeper (envOfC qual scope L' 736 cdv)) (execs (body.drop 7) (envOfC qual scope L' 736 cdv)) qk E s := by
  k_dflt (apply body_at ho)
  case h' => k_is
  intro _
  clear ho
  have S := oxs O OX
  have k1 : @LT.lt Nat _ kn (L' + 1) := Nat.lt_succ_of_lt hwL
  obtain ⟨v1, v2, v3, v4, v5, v6⟩ := ox5 S k1
  have n1 := S.fp; have n2 := S.cp; have n3 := S.pw; have n4 := S.pk
  have hWl : ∀ p ∈ bankLed w.params c b Z, p.1 ≠ (L' + 1 : Nat) := led_off O (.inr v6) zL
  have hWpl : ∀ p ∈ bankLed w.params c b Z, p.1 ≠ pl := led_off O (.inr S.vp) zpl
  obtain ⟨W, hWW, hZW, hWl, hWpl, hWs⟩ : ∃ W, (∀ p ∈ bankLed w.params c b Z, p ∈ W) ∧ (∀ p ∈ Z, p ∈ W) ∧ (∀ p ∈ W, p.1 ≠ (L' + 1 : Nat)) ∧ (∀ p ∈ W, p.1 ≠ pl) ∧ bankLed w.params c b Z = W := ⟨_, fun _ h => h, bank_tl, hWl, hWpl, rfl⟩
  dsimp only [stepLed] at N1
  rw [hWs] at N1
  simp only [List.drop]
  try k_fold
  k_steps
  all_goals (try delta Stop)
  have aW := allLt_mem lLk.2.2.2.2.2.2
  have zen : ∀ p ∈ W, p.1 ≠ Lk := fun p hp => Nat.ne_of_lt (aW p hp)
  have a1 := lLk.1; have a2 := lLk.2.1; have a3 := lLk.2.2.1; have a4 := lLk.2.2.2.1; have na2 := lLk.2.2.2.2.1; have na4 := lLk.2.2.2.2.2.1
  clear lLk aW
  obtain ⟨PEs, hp2⟩ := OC.pe
  rename Fr h₀ L' _ _ => F8
  rename News h₀ L' _ _ => N8
  have hN8 : ∀ p ∈ Z, _ := fun p hp => (N8 p (in7 p (hZW p hp))).1
  have hPm := pe_mem PEs
  refine srcC_rel (GE Z) (by with_unfolding_all rfl) (News.isList N8 (in7 _ (hZW _ hpa))) F8 N8 ?g2 ?g3 (by omega)
  case g2 =>
    intro C v s₂ m₂ E' hv hn hm hk
    obtain ⟨t, e, tt, wx, tw, x2, x3, q, rfl, he, _⟩ := hPm v hv
    have hle : s₂.heap.IsList e #[.int t tt, .int wx tw, x2, x3] := ⟨_, hk _ _ (hN8 _ he), rfl, _, rfl⟩
    clear N8 F8 B1 m1 m2 m3 m4 m5 m6
    k_steps
    all_goals (try delta Stop)
    · exact fun _ hx => pe_det hN8 he hx
    · exact ⟨_, _, rfl, fun _ _ e => e⟩
  case g3 =>
    intro D9 n9 ys h9 tk9 F9 N9 P9 l9
    have IA := pe_ints PEs P9
    clear F8 N8
    k_steps
    all_goals (try delta Stop)
    rename Fr h₀ L' _ _ => F8
    rename News h₀ L' _ _ => N8
    have hys : ys.length ≤ 2 := by rw [← P9.length]; exact hp2
    refine kde_tupleOf (zs := ys) F8 N8 (News.isList N8 (by k_mem)) (by rw [List.size_toArray]; omega) (by simp) fun ag h7 F7 N7 lag => ?_
    k_lt lag
    have nag := lag.2.2.2.2.2.2.1
    have nal := lag.2.1
    have nap := lag.2.2.2.2.2.1
    clear lag
    clear F8 N8
    k_sweep
    k_steps
    all_goals (try delta Stop)
    rename Fr h₀ L' _ _ => F8
    rename News h₀ L' _ _ => N8
    obtain ⟨tks, NA⟩ : ∃ (tks : Tok), News h₀ L' _ [(Dk, tupO [.str op tks, .ref ag, dv]), (ag, tupO ys)] := ⟨_, news_sub N8 (by k_all)⟩
    obtain ⟨oE, hoE, NE⟩ : ∃ oE : Obj, oE.data = .cell (some (.ref Lk)) ∧ News h₀ L' _ [(L' + 1, oE)] := ⟨_, by assumption, news_sub N8 (by k_all)⟩
    obtain ⟨q1, q2, q3, q4, q5⟩ := id I9.nt
    have NB := nc NE (nc NA (nc NA N8 (.tail _ (.head _))) (.head _)) (.head _)
    have NK : News h₀ L' _ (keptLed w.params c b ((ag, tupO ys) :: (fd, ofd) :: (cl, LO vs n) :: (pl, LO pv pn) :: (L' + 1, oE) :: Z) kn wd Dk Lk okn ow [.str op tks, .ref ag, dv] [.int r9 tr9, .int due td, .none, .none] 0) := news_sub NB (sub_cons (by k_mem) (bank_more (by k_mem) (bank_more (by k_mem) (bank_more (by k_mem) (bank_more (by k_mem) (bank_more (by k_mem) (bank_more (by k_mem) (bank_more (by k_mem) (bank_more (by k_mem) (fun p hp => (by k_all : ∀ p ∈ W, p ∈ _) p (hWW p hp)))))))))))
    have tl8 : ∀ p ∈ Z, p ∈ ((ag, tupO ys) :: (fd, ofd) :: (cl, LO vs n) :: (pl, LO pv pn) :: (L' + 1, oE) :: Z) := fun p hp => .tail _ (.tail _ (.tail _ (.tail _ (.tail _ hp))))
    have na1 : kn < Dk := lDk.2.2.2.2.2.2.2.1
    have d1 := lDk.1; have d2 := lDk.2.2.1; have d3 := lDk.2.2.2.1; have d4 := lDk.2.2.2.2.2.2.1
    clear lDk
    have na3 : (ag : Nat) ≠ kn := fun e => by
      have g1 := (NA (ag, tupO ys) (.tail _ (.head _))).1
      have g2 := (N8 (kn, okn) (by k_mem)).1
      rw [e] at g1
      exact nu_no_tup NU _ (Option.some.inj (g2.symm.trans g1))
    have hoff : ∀ p ∈ bankLed w.params c b ((wd, ow) :: (Dk, tupO [.str op tks, .ref ag, dv]) :: (Lk, LO [.int r9 tr9, .int due td, .none, .none] 0) :: (ag, tupO ys) :: (fd, ofd) :: (cl, LO vs n) :: (pl, LO pv pn) :: (L' + 1, oE) :: Z), p.1 ≠ kn :=
      led_off O (.inr S.vk) (all_cons (Nat.ne_of_lt S.wk) (all_cons (Nat.ne_of_gt na1) (all_cons (Nat.ne_of_gt na2) (all_cons na3 (all_cons (Nat.ne_of_lt S.fk) (all_cons (Nat.ne_of_lt S.ck) (all_cons (Nat.ne_of_lt S.pk) (all_cons (Nat.ne_of_gt k1) zkn))))))))
    have hk8 : ks.length ≤ 800 := Nat.le_trans hks (Nat.le_trans hlap (by decide))
    refine kept_any (Z := ((ag, tupO ys) :: (fd, ofd) :: (cl, LO vs n) :: (pl, LO pv pn) :: (L' + 1, oE) :: Z)) (Zk := Z) (ts := ts) (sw := sw) (ks := ks) (al := al) (dk := dk) (op := op) B1 F8 X1 T1 rfl rfl (dle hdp rfl) (ule hun rfl) NK O hwd NU tl8 lo ⟨_, .head _, .cons ⟨_, rfl, OC.isOp.ok⟩ (.cons ⟨ag, _, rfl, .tail _ (.head _), IA⟩ (.cons (OC.key.mono fun p hp => .tail _ (tl8 p hp)) .nil))⟩ hoff (by omega) (I9.mono tl8) (by omega) (by omega) (by omega) KN Ty pre9 OC.isOp OC.isOp.ok MD OC.due (by omega) (by omega) (by omega) fun h10 tk10 okn2 ks2 F10 N10 NU2 K2 Ty2 lk2 pt2 lt2 => ?_
    have c1 : ∀ us, ofd ≠ tupO us := by obtain ⟨_, _, _, e, _⟩ := hfd; exact dict_no_tup e
    have c2 : ∀ us, oE ≠ tupO us := cell_no_tup hoE
    have WX : WF w c fd cl pl kn wd bl (lap + 1) b ((Dk, tupO [.str op tks, .ref ag, dv]) :: (ag, tupO ys) :: Z) ts9 sw9 ofd okn2 ow pv ks2 := by
      have zs : ∀ p ∈ Z, p ∈ ((Dk, tupO [.str op tks, .ref ag, dv]) :: (ag, tupO ys) :: Z) := fun p hp => .tail _ (.tail _ hp)
      obtain ⟨q1, _, q3, q4, q5, q6⟩ := ox5 S nag
      obtain ⟨r1, _, r3, r4, r5, r6⟩ := ox5 S na1
      exact ⟨(ZO.above O q6).above O r6, all_cons (Nat.ne_of_gt r1) (all_cons (Nat.ne_of_gt q1) zfd), all_cons (Nat.ne_of_gt r3) (all_cons (Nat.ne_of_gt q3) zpl), all_cons (Nat.ne_of_gt r5) (all_cons (Nat.ne_of_gt q5) zkn), all_cons (Nat.ne_of_gt r4) (all_cons (Nat.ne_of_gt q4) zwd), hfd, ⟨_, _, _, hwd⟩, I9.mono zs, fun v hv => (hP v hv).mono zs pt2 pre9, hsm.mono zs, Ty2, K2,
        NU2.monoT fun a us hm => mem_drop4 hm (fun q => c1 us (congrArg Prod.snd q).symm) (fun q => lo_no_tup (congrArg Prod.snd q).symm) (fun q => lo_no_tup (congrArg Prod.snd q).symm) (fun q => c2 us (congrArg Prod.snd q).symm), Nat.le_succ_of_le hpl, Nat.le_trans lt2 (Nat.succ_le_succ hlt), Nat.le_trans hls (Nat.le_of_eq (Nat.add_right_comm 10 1 lap)), Nat.le_trans lk2 (Nat.succ_le_succ hks)⟩
    have N11 : News h₀ L' _ ((kn, okn2) :: (wd, ow) :: (Dk, tupO [.str op tks, .ref ag, dv]) :: (Lk, LO [.int r9 tr9, .int due td, .none, .none] 0) :: (ag, tupO ys) :: (fd, ofd) :: (cl, LO vs n) :: (pl, LO pv pn) :: (L' + 1, oE) :: W) := news_sub N10 (sub_cons (mem0) (sub_cons (in1 _ (bank_tl _ mem0)) (sub_cons (in1 _ (bank_tl _ mem1)) (sub_cons (in1 _ (bank_tl _ mem2)) (sub_cons (in1 _ (bank_tl _ mem3)) (sub_cons (in1 _ (bank_tl _ mem4)) (sub_cons (in1 _ (bank_tl _ mem5)) (sub_cons (in1 _ (bank_tl _ mem6)) (sub_cons (in1 _ (bank_tl _ mem7)) (fun p hp => in1 p (bank_sub in8 p (hWs.symm ▸ hp))))))))))))
    clear N10
    dsimp only
    clear NK N8 F8 NB hoff NA NE hwd NU KN Ty NU2 K2 Ty2 hP hsm hfd I9 tl8
    k_steps
    all_goals (try delta Stop)
    · rename Fr h₀ L' _ _ => F8
      rename News h₀ L' _ _ => N8
      have hN9 : ∀ p ∈ Z, _ := fun p hp => (N8 p (in9 p (hZW p hp))).1
      refine srcC_rel (GB Z) (by with_unfolding_all rfl) (News.isList N8 (in9 _ (hZW _ hpa))) F8 N8 ?h2 ?h3 (by omega)
      case h2 =>
        intro C v s₂ m₂ E' hv hn hm hk
        obtain ⟨t, e, tt, wx, tw, x2, x3, q, rfl, he, _⟩ := hPm v hv
        have hle : s₂.heap.IsList e #[.int t tt, .int wx tw, x2, x3] := ⟨_, hk _ _ (hN9 _ he), rfl, _, rfl⟩
        clear N8 F8 B1 m1 m2 m3 m4 m5 m6
        k_steps
        all_goals (try delta Stop)
        · exact ⟨e, _, _, _, _, rfl, he⟩
        · exact ⟨_, _, rfl, fun _ _ e => e⟩
      case h3 =>
        intro D9 n9 zs h9 tk9 F9 N9 P9 l9
        have d1 : @Ne Nat pl D9 := l9 (pl, LO pv pn) (by k_mem)
        have d2 : @Ne Nat Lk D9 := l9 (Lk, LO [.int r9 tr9, .int due td, .none, .none] 0) (by k_mem)
        clear F8 N8
        refine notin_none (Z := Z) (by ktr_units) N9 (.head _) (fun p hp => (by k_all : ∀ p ∈ W, p ∈ _) p (hZW p hp)) (gb_bits hN9 P9 hPm) ?_
        cases hb : zs.any fun y => y matches .none
        · obtain ⟨bs, OB⟩ := OC.b (by assumption) (gb_some hN9 P9 hb)
          obtain ⟨BB, bl'⟩ := OB.bits
          subst bl'
          have hb1 : bs.length ≤ 24 := Nat.le_of_lt_succ (Int.ofNat_lt.mp (by assumption))
          have hb2 : (bs.length : Int) ≤ 24 := Int.ofNat_le.mpr hb1
          clear hN8 hN9 hPm P9
          k_steps
          all_goals (try delta Stop)
          rename Fr h₀ L' _ _ => F8
          rename News h₀ L' _ _ => N8
          refine listed_any B1 F8 X1 T1 rfl rfl (dle hdp rfl) (ule hun rfl) N8 ((by k_all : ∀ p ∈ W, p ∈ _) _ (hZW _ hpa)) (OB.mono fun p hp => (by k_all : ∀ p ∈ W, p ∈ _) p (hZW p hp)) fun bl9 h8 tk8 bv9 bn9 F7 N7 I7 l7 => ?_
          dsimp only
          clear F8 N8
          have hv9 : bv9.length ≤ 24 := by rw [I7.length]; exact hb1
          k_lt l7
          k_steps
          all_goals (try delta Stop)
          rename Fr h₀ L' _ _ => F8
          rename News h₀ L' _ _ => N8
          refine reck_any B1 F8 X1 T1 rfl rfl (dle hdp rfl) (ule hun rfl) N8 ((by k_all : ∀ p ∈ W, p ∈ _) _ (hZW _ hpa)) (OB.mono fun p hp => (by k_all : ∀ p ∈ W, p ∈ _) p (hZW p hp)) fun h6 tk6 t6 F6 N6 => ?_
          dsimp only
          clear F8 N8
          k_steps
          all_goals (try delta Stop)
          rename Fr h₀ L' _ _ => F8
          rename News h₀ L' _ _ => N8
          have hgt : ∀ k : Int, 0 ≤ k → k < bs.length → ∃ t, bv9[k.toNat]? = some (.int (bs.getD k.toNat 0) t) := fun k h0 h1 => ints_at I7 h0 h1
          obtain ⟨q3, q4, NE⟩ : ∃ q3 oE', oE'.data = .cell (some (.ref Lk)) ∧ News h₀ L' _ ((Lk, LO [.int r9 tr9, .int bs.length td, .ref bl9, .int (worth bs) t6] q3) :: (L' + 1, oE') :: (bl9, LO bv9 bn9) :: (Dk, tupO [.str op tks, .ref ag, dv]) :: (ag, tupO ys) :: (fd, ofd) :: (cl, LO vs n) :: (pl, LO pv pn) :: (kn, okn2) :: (wd, ow) :: W) := ⟨_, _, by assumption, news_sub N8 (by k_all)⟩
          refine LCt.CompSrcT.range (by rfl) F8 NE.2 (by assumption) (small_one (by omega) (by omega) (by omega) (by omega)) (rangeSize_nat _ _) (by rw [sizeLine_eq, tn0]; exact Nat.le_trans hb1 (by decide)) ?_
          intro g'
          refine' kci_range (bitG bs) (fun k' t' I' oI' C' oC' D' m' ys' l' h' tk' E' hlo' hhi' hI' hC' hx' F' N' off' ne' mk' => ?turn) ?fin ?hg
          case hg => intro l k; dsimp only [bitG]; split <;> simp
          case turn =>
            rw [tn0, Int.zero_add] at hhi'
            obtain ⟨tb, hget⟩ := hgt k' hlo' hhi'
            exact bit_turn F' N' NE.1 hI' hC' hx' off' ne' hlo' (Int.lt_of_lt_of_le hhi' (Int.le_trans hb2 (by decide))) hget (fun _ => trivial) rfl
          case fin =>
            intro us hus hul D8 h7 tk7 F7 N7 off7
            dsimp only
            have hfw := fold_worth BB bs.length (Nat.le_refl _)
            rw [List.take_length] at hfw
            rw [tn0] at hus hul
            have hoE4 := NE.1
            clear F8 N8 hgt NE m1 m2 m3 m5 OB
            k_steps
            all_goals (try delta Stop)
            rw [hfw]
            refine ne_int ?_
            rw [show (worth bs != worth bs) = false by simp]
            clear hfw hus hul
            k_steps
            all_goals (try delta Stop)
            refine ne_int ?_
            first | rw [show ((bs.length : Int) != bs.length) = false by simp] | rw [show ((bv9.length : Int) != bs.length) = false by rw [I7.length]; simp]
            rename Fr h₀ L' _ _ => F8
            rename News h₀ L' _ _ => N8
            have N6 : News h₀ L' _ ((Lk, LO [.int r9 tr9, .int bs.length td, .ref bl9, .int (worth bs) t6] q3) :: (L' + 1, q4) :: (bl9, LO bv9 bn9) :: (Dk, tupO [.str op tks, .ref ag, dv]) :: (ag, tupO ys) :: (fd, ofd) :: (cl, LO vs n) :: (pl, LO pv pn) :: (kn, okn2) :: (wd, ow) :: W) := fun p hp => N8 p (.tail _ hp)
            clear N8 F7 N7 off7
            k_steps
            all_goals (try delta Stop)
            rename Fr h₀ L' _ _ => F5
            rename News h₀ L' _ _ => N5
            have WY := WX.fresh (a := bl9) (o := LO bv9 bn9) O OX l7.2.1
            exact ret _ _ _ _ _ _ _ F5 (news_sub N5 (by exact sub_cons (by k_mem) (sub_cons (by k_mem) (sub_cons (by k_mem) (sub_cons (by k_mem) (sub_cons (by k_mem) (bank_more (by k_mem) (bank_more (by k_mem) (bank_more (by k_mem) (bank_more (by k_mem) (fun p hp => (by k_all : ∀ p ∈ W, p ∈ _) p (hWW p hp)))))))))))) (WY.push O OX na2 hpl (made_wof MD) (.inr ⟨bl9, bv9, bn9, bs, t6, rfl, .head _, I7, BB, rfl, rfl, by omega, by omega⟩)) fun p hp => .tail _ (.tail _ (.tail _ (.tail _ hp)))
        · k_steps
          all_goals (try delta Stop)
          rename Fr h₀ L' _ _ => F8
          rename News h₀ L' _ _ => N8
          exact ret _ _ _ _ _ _ _ F8 (news_sub N8 (by exact sub_cons (by k_mem) (sub_cons (by k_mem) (sub_cons (by k_mem) (sub_cons (by k_mem) (sub_cons (by k_mem) (bank_more (by k_mem) (bank_more (by k_mem) (bank_more (by k_mem) (fun p hp => (by k_all : ∀ p ∈ W, p ∈ _) p (hWW p hp))))))))))) (WX.push O OX na2 hpl (made_wof MD) (.inl ⟨rfl, rfl⟩)) fun p hp => .tail _ (.tail _ (.tail _ hp))
    · rename Fr h₀ L' _ _ => F8
      rename News h₀ L' _ _ => N8
      exact ret _ _ _ _ _ _ _ F8 (news_sub N8 (by exact sub_cons (by k_mem) (sub_cons (by k_mem) (sub_cons (by k_mem) (sub_cons (by k_mem) (sub_cons (by k_mem) (bank_more (by k_mem) (bank_more (by k_mem) (bank_more (by k_mem) (fun p hp => (by k_all : ∀ p ∈ W, p ∈ _) p (hWW p hp))))))))))) (WX.push O OX na2 hpl (made_wof MD) (.inl ⟨rfl, rfl⟩)) fun p hp => .tail _ (.tail _ (.tail _ hp))
end
end
section
open PySem PySem.W PySem.Calls PyProof.Rows
theorem OpC.zdv {Z : List (Addr × Obj)} {ts : List Tm} {sw : List Int} {op : Str} {prt : List Value} {al : List Int} {dk : EK} {dv : Value} {due : Int} (x : OpC Z ts sw op prt al dk dv due) (h : op = Str.ofString "zero_extend" ∨ op = Str.ofString "sign_extend") : ∃ many tz, dv = .int many tz := by
  obtain ⟨n1, n2, n3, n4, n5⟩ := ne_ops
  induction x with
  | extr _ _ _ _ _ _ _ => rcases h with h | h; exact absurd h n2; exact absurd h n3
  | conc _ _ _ _ _ _ => rcases h with h | h; exact absurd h n4; exact absurd h n5
  | zero _ _ _ _ => exact ⟨_, _, rfl⟩
  | sign _ _ _ _ => exact ⟨_, _, rfl⟩
set_option hygiene false in
local macro_rules | `(tactic| walk_at "subscriptTail Name Constant ref int") => `(tactic| (k_here; refine stop_in ?_))
set_option hygiene false in
local macro_rules | `(tactic| walk_at "compareOp In int ref") => `(tactic| (k_here; refine stop_in ?_))
set_option hygiene false in
local macro_rules | `(tactic| walk_at "execs cons") => `(tactic| with_reducible refine st_asg ?_)
section
variable {w : World} {mean : ExcName → Option Value} {mg mb : Str → Option Value} {dp un : Nat} {gd : Option (List Code)} {env : Env} {outer : List Env} {A₀ : Around} {base h₀ g₀ : Heap} {L : Addr} {m : Str → Option Value} {s : Shared} {Q E : Value → Shared → Prop}
    {c : BA} {b : BSt} {Z : List (Addr × Obj)} {ts ts9 : List Tm} {sw sw9 : List Int} {fd cl pl kn wd pa h₁ : Nat} {ofd okn ow oc oX : Obj} {vs pv prt : List Value} {ns al : List Int} {n pn lap q9 : Nat} {ks : List (List EK × Addr × Value)} {bl great bf due : Int} {to td : Tok} {dv cX : Value} {op : Str} {dk : EK} {r9 : Nat} {tr9 tbf : Tok}
    {fa : Addr} {cdx : Value} {name qual : Str} {params : Arguments} {body : List Stmt} {scope : Scope} {dV kV doc pm cdv ct oc9 : Value} {an od : Option Addr} {osl : Array (Option Value)} {qk : Flow → Shared → Prop} {L' : Addr}
set_option maxHeartbeats 20000000 in
/-- from `if due in ..` on, the width let -/
theorem mid_ok (ho : (heap w.params).lookup 736 = some ⟨oc9, od, .func (fnOf name qual params body scope dV kV doc pm an cdv ct), osl⟩) (B1 : Below ({ handled := none, depth := dp, frames := some outer, guards := gd, units := un } : Around) base outer h₀) (F1 : Fr h₀ L' s.heap m) (X1 : (heap w.params).In h₀) (T1 : Top view (looseW view []) mean mg mb h₀) (hdp : dp ≤ 420) (hun : un ≤ 410)
    (N1 : News h₀ L' s.heap ((L' + 1, oX) :: stepLed w.params c b fd cl pl kn wd ofd okn ow vs pv n pn Z)) (hoX : oX.data = .cell none) (O : c.Ord) (OX : fd < cl ∧ cl < c.bd ∧ c.bv < pl ∧ pl < wd ∧ wd < kn) (lo : (kn == sysModules) = false)
    (m1 : m (Str.ofString "op") = some (.str op to)) (m2 : m (Str.ofString "parts") = some (.ref pa)) (m3 : m (Str.ofString "data") = some dv) (m4 : m (Str.ofString "due") = some (.int due td)) (m5 : m (Str.ofString "world") = some (.ref wd)) (m6 : m (Str.ofString "pool") = some (.ref pl))
    (hpa : (pa, LO prt q9) ∈ Z) (OC : OpC Z ts sw op prt al dk dv due) (hdue : 1 ≤ due ∧ due ≤ 4096) (zL : ∀ p ∈ Z, p.1 ≠ (L' + 1 : Nat))
    (ZO : c.Off Z) (zfd : ∀ p ∈ Z, p.1 ≠ fd) (zpl : ∀ p ∈ Z, p.1 ≠ pl) (zkn : ∀ p ∈ Z, p.1 ≠ kn) (zwd : ∀ p ∈ Z, p.1 ≠ wd)
    (hwd : ow.IsDictOf (PySem.strKind PySem.Challenge.rw_nz0152_01.row.prog w) (worldKvs c pl kn bf (.int r9 tr9) tbf)) (hbf : bf = ts.length - 1)
    (I9 : BInv w Z b ts9 sw9) (Ty : Typed ts sw) (KN : Known ts ks) (NU : NuIs PySem.Challenge.rw_nz0152_01.row.prog w Z okn ks) (pre9 : sw <+: sw9) (MD : Made ts ts9 sw9 r9 op al due dk)
    (hpl : pv.length ≤ 10 + lap) (hlt : ts.length ≤ 10 + lap) (hls : sw9.length ≤ 11 + lap) (hks : ks.length ≤ lap) (hlap : lap ≤ 50) (h1t : 1 ≤ ts.length) (hwL : kn < L')
    (hfd : ∃ k tk tb, ofd.IsDictOf (PySem.strKind PySem.Challenge.rw_nz0152_01.row.prog w) (feedKvs cl k bl tk tb) ∧ 0 ≤ k ∧ k ≤ 10 + 10 * (lap + 1)) (hP : ∀ v ∈ pv, Ent Z ts sw v) (hsm : SomeBits Z pv)
    (ret : ∀ h' tk' pn' okn' ks' Z' pv', Fr h₀ L' h' m → News h₀ L' h' (stepLed w.params c b fd cl pl kn wd ofd okn' ow vs pv' n pn' Z') →
      WF w c fd cl pl kn wd bl (lap + 1) b Z' ts9 sw9 ofd okn' ow pv' ks' → (∀ p ∈ Z, p ∈ Z') → qk (.ret (.bool true)) { s with heap := h', toks := tk' })
    (hz : op = Str.ofString "zero_extend" ∨ op = Str.ofString "sign_extend" → ∀ many tz, dv = .int many tz → many ≠ 0) :
    wpAny (model PySem.Challenge.rw_nz0152_01.row.prog w) (({ handled := none, depth := dp, frames := some outer, guards := gd, units := un } : Around).deeper (envOfC qual scope L' 736 cdv)) (execs (body.drop 5) (envOfC qual scope L' 736 cdv)) qk E s := by
  k_dflt (apply body_at ho)
  case h' => k_is
  intro ho'
  clear ho
  have N1' := N1
  dsimp only [stepLed] at N1
  obtain ⟨W, hW⟩ : ∃ W, bankLed w.params c b Z = W := ⟨_, rfl⟩
  rw [hW] at N1
  simp only [List.drop]
  try k_fold
  clear N1'
  k_steps
  all_goals (try delta Stop)
  rename News h₀ L' _ _ => N8
  refine in_int2 (by ktr_units) N8 (by k_mem) (by decide +kernel) (by decide +kernel) ?_
  have zdv := OC.zdv
  have oo := OC.isOp
  rcases oo with e | e | e | e
  · clear hz zdv
    subst e
    k_steps
    all_goals (try delta Stop)
    rename Fr h₀ L' _ _ => F9
    rename News h₀ L' _ _ => N9
    subst hW
    exact step_tail (unhid ho') B1 F9 X1 T1 hdp hun (news_sub N9 (by k_all)) hoX O OX lo m1 m2 m3 m4 m5 m6 hpa OC hdue zL ZO zfd zpl zkn zwd hwd hbf I9 Ty KN NU pre9 MD hpl hlt hls hks hlap h1t hwL hfd hP hsm ret
  · clear hz zdv
    subst e
    k_steps
    all_goals (try delta Stop)
    rename Fr h₀ L' _ _ => F9
    rename News h₀ L' _ _ => N9
    subst hW
    exact step_tail (unhid ho') B1 F9 X1 T1 hdp hun (news_sub N9 (by k_all)) hoX O OX lo m1 m2 m3 m4 m5 m6 hpa OC hdue zL ZO zfd zpl zkn zwd hwd hbf I9 Ty KN NU pre9 MD hpl hlt hls hks hlap h1t hwL hfd hP hsm ret
  · obtain ⟨many, tz, ed⟩ := zdv (.inl e)
    have hz := hz (.inl e) many tz ed
    clear zdv
    subst e
    subst ed
    k_steps
    all_goals (try delta Stop)
    · exfalso; (first | omega | simp_all)
    rename Fr h₀ L' _ _ => F9
    rename News h₀ L' _ _ => N9
    subst hW
    exact step_tail (unhid ho') B1 F9 X1 T1 hdp hun (news_sub N9 (by k_all)) hoX O OX lo m1 m2 m3 m4 m5 m6 hpa OC hdue zL ZO zfd zpl zkn zwd hwd hbf I9 Ty KN NU pre9 MD hpl hlt hls hks hlap h1t hwL hfd hP hsm ret
  · obtain ⟨many, tz, ed⟩ := zdv (.inr e)
    have hz := hz (.inr e) many tz ed
    clear zdv
    subst e
    subst ed
    k_steps
    all_goals (try delta Stop)
    · exfalso; (first | omega | simp_all)
    rename Fr h₀ L' _ _ => F9
    rename News h₀ L' _ _ => N9
    subst hW
    exact step_tail (unhid ho') B1 F9 X1 T1 hdp hun (news_sub N9 (by k_all)) hoX O OX lo m1 m2 m3 m4 m5 m6 hpa OC hdue zL ZO zfd zpl zkn zwd hwd hbf I9 Ty KN NU pre9 MD hpl hlt hls hks hlap h1t hwL hfd hP hsm ret
end
end
section
open PySem PySem.W PySem.Calls PyProof.Rows
set_option hygiene false in
local macro_rules | `(tactic| walk_at "compareOp In int ref") => `(tactic| (k_here; refine stop_in ?_))
theorem qret {qk : Flow → Shared → Prop} {s : Shared} {x : Bool} (e : x = true) (h : qk (.ret (.bool true)) s) : qk (.ret (.bool x)) s := e ▸ h
section
variable {w : World} {mean : ExcName → Option Value} {mg mb : Str → Option Value} {dp un : Nat} {gd : Option (List Code)} {env : Env} {outer : List Env} {A₀ : Around} {base h₀ g₀ : Heap} {L : Addr} {m : Str → Option Value} {s : Shared} {Q E : Value → Shared → Prop}
    {c : BA} {b : BSt} {Z : List (Addr × Obj)} {ts : List Tm} {sw : List Int} {fd cl pl kn wd pa e0 : Nat} {ofd okn ow oX : Obj} {vs pv : List Value} {n pn q9 q0 : Nat} {bf t due : Int} {to td tx tbf tt th tz : Tok} {op x : Str} {x1 x2 x3 : Value}
    {fa : Addr} {cdx : Value} {name qual : Str} {params : Arguments} {body : List Stmt} {scope : Scope} {dV kV doc pm cdv ct oc9 : Value} {an od : Option Addr} {osl : Array (Option Value)} {qk : Flow → Shared → Prop} {L' : Addr}
set_option maxHeartbeats 20000000 in
/-- from `if due in ..` on, the call refused -/
theorem mid_bad (ho : (heap w.params).lookup 736 = some ⟨oc9, od, .func (fnOf name qual params body scope dV kV doc pm an cdv ct), osl⟩) (B1 : Below ({ handled := none, depth := dp, frames := some outer, guards := gd, units := un } : Around) base outer h₀) (F1 : Fr h₀ L' s.heap m) (X1 : (heap w.params).In h₀) (T1 : Top view (looseW view []) mean mg mb h₀) (hdp : dp ≤ 420) (hun : un ≤ 410)
    (N1 : News h₀ L' s.heap ((L' + 1, oX) :: stepLed w.params c b fd cl pl kn wd ofd okn ow vs pv n pn Z))
    (m4 : m (Str.ofString "due") = some (.str x td)) (m5 : m (Str.ofString "world") = some (.ref wd)) (hx : x = Str.ofString "sort" ∨ x = Str.ofString "limit")
    (hwd : ow.IsDictOf (PySem.strKind PySem.Challenge.rw_nz0152_01.row.prog w) (worldKvs c pl kn bf (.str x tx) tbf)) (hbf : bf = ts.length - 1) (I9 : BInv w Z b ts sw) (hlt : ts.length ≤ 100)
    (ret : ∀ h' tk', Fr h₀ L' h' m → News h₀ L' h' (stepLed w.params c b fd cl pl kn wd ofd okn ow vs pv n pn Z) → qk (.ret (.bool true)) { s with heap := h', toks := tk' }) :
    wpAny (model PySem.Challenge.rw_nz0152_01.row.prog w) (({ handled := none, depth := dp, frames := some outer, guards := gd, units := un } : Around).deeper (envOfC qual scope L' 736 cdv)) (execs (body.drop 5) (envOfC qual scope L' 736 cdv)) qk E s := by
  k_dflt (apply body_at ho)
  case h' => k_is
  intro _
  clear ho
  obtain ⟨nt1, nt2, nt3, nt4, nt5⟩ := id I9.nt
  have hbe : ((b.vo.length : Int) - 1 == bf) = true := by rw [hbf, nt1]; simp
  have hvo : b.vo.length ≤ 100 := Nat.le_trans (Nat.le_of_eq nt1) hlt
  dsimp only [stepLed, bankLed] at N1
  simp only [List.drop]
  try k_fold
  rcases hx with rfl | rfl
  · k_steps
    all_goals (try delta Stop)
    rename Fr h₀ L' _ _ => F9
    rename News h₀ L' _ _ => N9
    exact qret hbe (ret _ _ F9 (news_sub N9 (by k_all)))
  · k_steps
    all_goals (try delta Stop)
    rename Fr h₀ L' _ _ => F9
    rename News h₀ L' _ _ => N9
    exact qret hbe (ret _ _ F9 (news_sub N9 (by k_all)))
set_option maxHeartbeats 20000000 in
/-- made wider by nothing -/
theorem mid_zero (ho : (heap w.params).lookup 736 = some ⟨oc9, od, .func (fnOf name qual params body scope dV kV doc pm an cdv ct), osl⟩) (B1 : Below ({ handled := none, depth := dp, frames := some outer, guards := gd, units := un } : Around) base outer h₀) (F1 : Fr h₀ L' s.heap m) (X1 : (heap w.params).In h₀) (T1 : Top view (looseW view []) mean mg mb h₀) (hdp : dp ≤ 420) (hun : un ≤ 410)
    (N1 : News h₀ L' s.heap ((L' + 1, oX) :: (pa, LO [.ref e0] q9) :: (e0, LO [.int t tt, x1, x2, x3] q0) :: stepLed w.params c b fd cl pl kn wd ofd okn ow vs pv n pn Z))
    (m1 : m (Str.ofString "op") = some (.str op to)) (m2 : m (Str.ofString "parts") = some (.ref pa)) (m3 : m (Str.ofString "data") = some (.int 0 tz)) (m4 : m (Str.ofString "due") = some (.int due td)) (m5 : m (Str.ofString "world") = some (.ref wd)) (hx : op = Str.ofString "zero_extend" ∨ op = Str.ofString "sign_extend")
    (hwd : ow.IsDictOf (PySem.strKind PySem.Challenge.rw_nz0152_01.row.prog w) (worldKvs c pl kn bf (.int t th) tbf)) (hbf : bf = ts.length - 1) (I9 : BInv w Z b ts sw) (hlt : ts.length ≤ 100)
    (ret : ∀ h' tk', Fr h₀ L' h' m → News h₀ L' h' (stepLed w.params c b fd cl pl kn wd ofd okn ow vs pv n pn Z) → qk (.ret (.bool true)) { s with heap := h', toks := tk' }) :
    wpAny (model PySem.Challenge.rw_nz0152_01.row.prog w) (({ handled := none, depth := dp, frames := some outer, guards := gd, units := un } : Around).deeper (envOfC qual scope L' 736 cdv)) (execs (body.drop 5) (envOfC qual scope L' 736 cdv)) qk E s := by
  k_dflt (apply body_at ho)
  case h' => k_is
  intro _
  clear ho
  obtain ⟨nt1, nt2, nt3, nt4, nt5⟩ := id I9.nt
  have hbe : ((b.vo.length : Int) - 1 == bf) = true := by rw [hbf, nt1]; simp
  have hvo : b.vo.length ≤ 100 := Nat.le_trans (Nat.le_of_eq nt1) hlt
  dsimp only [stepLed, bankLed] at N1
  simp only [List.drop]
  try k_fold
  k_steps
  all_goals (try delta Stop)
  rename News h₀ L' _ _ => N8
  refine in_int2 (by ktr_units) N8 (by k_mem) (by decide +kernel) (by decide +kernel) ?_
  rcases hx with rfl | rfl
  · k_steps
    all_goals (try delta Stop)
    · rename Fr h₀ L' _ _ => F9
      rename News h₀ L' _ _ => N9
      exact qret hbe (ret _ _ F9 (news_sub N9 (by k_all)))
    · exfalso; (first | omega | simp_all)
  · k_steps
    all_goals (try delta Stop)
    · rename Fr h₀ L' _ _ => F9
      rename News h₀ L' _ _ => N9
      exact qret hbe (ret _ _ F9 (news_sub N9 (by k_all)))
    · exfalso; (first | omega | simp_all)
end
end
section
open PySem PySem.W PySem.Calls PyProof.Rows
theorem sub_news {h₀ h : Heap} {L : Addr} {A B : List (Addr × Obj)} (N : News h₀ L h A) (s : ∀ p ∈ B, p ∈ A) : News h₀ L h B := fun p hp => N p (s p hp)
/-- the world behind an answer of the bank's -/
theorem heard_ok {w : World} {h₁ h : Heap} {L' : Addr} {c : BA} {b9 : BSt} {Z Z9 : List (Addr × Obj)} {ts9 : List Tm} {sw9 : List Int} {fd cl pl kn wd pa : Nat} {ofd okn ow oX : Obj} {vs pv prt : List Value} {n pn q9 : Nat} {ks : List (List EK × Addr × Value)} {kvs kvs2 : List (Str × Value)} {W0 : List (Addr × Obj)}
    (N1 : News h₁ L' h (bankLed w.params c b9 Z9)) (I9 : BInv w Z9 b9 ts9 sw9) (ZO9 : c.Off Z9) (zs : ∀ p ∈ Z, p ∈ Z9) (f1 : (fd, ofd) ∈ Z9) (f2 : (cl, LO vs n) ∈ Z9) (f3 : (pl, LO pv pn) ∈ Z9) (f4 : (kn, okn) ∈ Z9) (f5 : (wd, ow) ∈ Z9) (f6 : ((L' + 1 : Nat), oX) ∈ Z9) (f7 : (pa, LO prt q9) ∈ Z9)
    (g1 : ofd.IsDictOf (PySem.strKind PySem.Challenge.rw_nz0152_01.row.prog w) kvs) (g2 : ow.IsDictOf (PySem.strKind PySem.Challenge.rw_nz0152_01.row.prog w) kvs2) (g3 : NuIs PySem.Challenge.rw_nz0152_01.row.prog w W0 okn ks) (g4 : oX.data = .cell none) (OX : fd < cl ∧ cl < c.bd ∧ c.bv < pl ∧ pl < wd ∧ wd < kn)
    (zfd : ∀ p ∈ Z, p.1 ≠ fd) (zpl : ∀ p ∈ Z, p.1 ≠ pl) (zkn : ∀ p ∈ Z, p.1 ≠ kn) (zwd : ∀ p ∈ Z, p.1 ≠ wd) (zL : ∀ p ∈ Z, p.1 ≠ (L' + 1 : Nat)) (hL : @LT.lt Nat _ kn L') (hpa : @LT.lt Nat _ (L' + 1) pa) (O : c.Ord) :
    ∃ Zn, News h₁ L' h ((L' + 1, oX) :: stepLed w.params c b9 fd cl pl kn wd ofd okn ow vs pv n pn Zn) ∧ BInv w Zn b9 ts9 sw9 ∧ c.Off Zn ∧ (∀ p ∈ Z, p ∈ Zn) ∧ (pa, LO prt q9) ∈ Zn ∧ (∀ a us, (a, tupO us) ∈ Z9 → (a, tupO us) ∈ Zn) ∧
      (∀ p ∈ Zn, p.1 ≠ fd) ∧ (∀ p ∈ Zn, p.1 ≠ pl) ∧ (∀ p ∈ Zn, p.1 ≠ kn) ∧ (∀ p ∈ Zn, p.1 ≠ wd) ∧ (∀ p ∈ Zn, p.1 ≠ (L' + 1 : Nat)) := by
  have S := oxs O OX
  have k1 := Nat.lt_trans S.wk hL; have k2 := Nat.lt_trans (Nat.lt_succ_of_lt hL) hpa
  obtain ⟨Zn, zn1, zn2, zn3, zn4⟩ := purge N1 (Z7 := Z9) (fun p hp => bank_tl p hp) [(fd, ofd), (pl, LO pv pn), (kn, okn), (wd, ow), (L' + 1, oX)] (fun p hp => bank_tl p ((sub_cons f1 (sub_cons f3 (sub_cons f4 (sub_cons f5 (sub_cons f6 sub_nil)))) : ∀ p ∈ _, p ∈ Z9) p hp))
    (all_cons (dict_no_tup g1) (all_cons (fun us => lo_no_tup) (all_cons (nu_no_tup g3) (all_cons (dict_no_tup g2) (all_cons (cell_no_tup g4) fun _ h => nomatch h)))))
  have nx : ∀ {a : Addr}, a ≠ fd → a ≠ pl → a ≠ kn → a ≠ wd → a ≠ (L' + 1 : Nat) → ∀ x ∈ [(fd, ofd), (pl, LO pv pn), (kn, okn), (wd, ow), (L' + 1, oX)], a ≠ x.1 := fun a1 a2 a3 a4 a5 => all_cons a1 (all_cons a2 (all_cons a3 (all_cons a4 (all_cons a5 fun _ h => nomatch h))))
  refine ⟨Zn, sub_news N1 ?_, I9.monoT zn4, ZO9.sub zn1, fun p hp => zn2 p (zs p hp) (nx (zfd p hp) (zpl p hp) (zkn p hp) (zwd p hp) (zL p hp)), zn2 _ f7 (nx (Nat.ne_of_gt (Nat.lt_trans S.fk k2)) (Nat.ne_of_gt (Nat.lt_trans S.pk k2)) (Nat.ne_of_gt k2) (Nat.ne_of_gt (Nat.lt_trans S.wk k2)) (Nat.ne_of_gt hpa)), zn4, fun p hp => zn3 p hp _ mem0, fun p hp => zn3 p hp _ mem1, fun p hp => zn3 p hp _ mem2, fun p hp => zn3 p hp _ mem3, fun p hp => zn3 p hp _ mem4⟩
  exact sub_cons (bank_tl _ f6) (sub_cons (bank_tl _ f1) (sub_cons (bank_tl _ f2) (sub_cons (bank_tl _ f3) (sub_cons (bank_tl _ f4) (sub_cons (bank_tl _ f5) (bank_sub zn1))))))
end
section
open PySem PySem.W PySem.Calls PyProof.Rows
local macro_rules | `(tactic| walk_at "pad0") => `(tactic| skip)
set_option hygiene false in
local macro_rules | `(tactic| walk_at "execs cons") => `(tactic| with_reducible refine st_ifIn ?_)
/-- how a call of the bank's ends -/
inductive Kd | bad | lim | zero | ok
noncomputable def dueV (k : Kd) (d : Int) (t : Tok) : Value := match k with | .bad => .str (Str.ofString "sort") t | .lim => .str (Str.ofString "limit") t | _ => .int d t
noncomputable def askV (k : Kd) (ts ts' : List Tm) (sw sw' : List Int) (b b' : BSt) (op : Str) (al : List Int) (dk : EK) (d t0 : Int) (tt0 : Tok) (hv : Value) : Prop := match k with
  | .bad => (∃ tx, hv = .str (Str.ofString "sort") tx) ∧ b' = b ∧ ts' = ts ∧ sw' = sw
  | .lim => (∃ tx, hv = .str (Str.ofString "limit") tx) ∧ b' = b ∧ ts' = ts ∧ sw' = sw
  | .zero => hv = .int t0 tt0 ∧ b' = b ∧ ts' = ts ∧ sw' = sw
  | .ok => (∃ (r : Nat) (tr : Tok), hv = .int r tr ∧ Made ts ts' sw' r op al d dk) ∧ sw'.length ≤ sw.length + 1
structure Asked (w : World) (c : BA) (V : List (Addr × Obj)) (k : Kd) (ts ts' : List Tm) (sw sw' : List Int) (b b' : BSt) (Z' : List (Addr × Obj)) (op : Str) (al : List Int) (dk : EK) (d t0 : Int) (tt0 : Tok) (hv : Value) : Prop where
  I : BInv w Z' b' ts' sw'
  sub : ∀ p ∈ V, p ∈ Z'
  off : c.Off Z'
  pre : sw <+: sw'
  v : askV k ts ts' sw sw' b b' op al dk d t0 tt0 hv
/-- what is known of the parts, by the case -/
noncomputable def caseOk (k : Kd) (Z : List (Addr × Obj)) (ts : List Tm) (sw : List Int) (op : Str) (prt : List Value) (al : List Int) (dk : EK) (dv : Value) (d t0 : Int) (tt0 : Tok) : Prop := match k with
  | .ok => OpC Z ts sw op prt al dk dv d ∧ (1 ≤ d ∧ d ≤ 4096) ∧ (op = Str.ofString "zero_extend" ∨ op = Str.ofString "sign_extend" → ∀ many tz, dv = .int many tz → many ≠ 0)
  | .zero => (op = Str.ofString "zero_extend" ∨ op = Str.ofString "sign_extend") ∧ ∃ (tz : Tok) (e0 : Addr) (x1 x2 x3 : Value) (q0 : Nat), dv = .int 0 tz ∧ prt = [.ref e0] ∧ (e0, LO [.int t0 tt0, x1, x2, x3] q0) ∈ Z
  | _ => True
theorem OpC.monoZ {Z Z' : List (Addr × Obj)} {ts : List Tm} {sw : List Int} {op : Str} {prt : List Value} {al : List Int} {dk : EK} {dv : Value} {due : Int} (hs : ∀ p ∈ Z, p ∈ Z') (x : OpC Z ts sw op prt al dk dv due) : OpC Z' ts sw op prt al dk dv due := by
  induction x with
  | extr g a b h c1 c2 c3 => exact .extr (hs _ g) a (b.mono hs) (hs _ h) c1 c2 c3
  | conc g a b h c1 c2 => exact .conc (hs _ g) a (b.mono hs) (hs _ h) c1 (c2.mono hs)
  | zero g a b h => exact .zero (hs _ g) a (b.mono hs) h
  | sign g a b h => exact .sign (hs _ g) a (b.mono hs) h
theorem WF.refused {w : World} {c : BA} {fd cl pl kn wd : Nat} {bl : Int} {lap : Nat} {b b9 : BSt} {Z Zn : List (Addr × Obj)} {ts ts9 : List Tm} {sw sw9 : List Int} {ofd ofd0 okn ow ow' : Obj} {pv : List Value} {ks : List (List EK × Addr × Value)}
    (x : WF w c fd cl pl kn wd bl lap b Z ts sw ofd0 okn ow pv ks) (e3 : ts9 = ts) (e4 : sw9 = sw) (hZn : ∀ p ∈ Z, p ∈ Zn) (ZO : c.Off Zn) (zfd : ∀ p ∈ Zn, p.1 ≠ fd) (zpl : ∀ p ∈ Zn, p.1 ≠ pl) (zkn : ∀ p ∈ Zn, p.1 ≠ kn) (zwd : ∀ p ∈ Zn, p.1 ≠ wd) (In : BInv w Zn b9 ts9 sw9)
    (hfd : ∃ k tk tb, ofd.IsDictOf (PySem.strKind PySem.Challenge.rw_nz0152_01.row.prog w) (feedKvs cl k bl tk tb) ∧ 0 ≤ k ∧ k ≤ 10 + 10 * ((lap + 1 : Nat) : Int)) (hwd : ∃ bf hv tbf, ow'.IsDictOf (PySem.strKind PySem.Challenge.rw_nz0152_01.row.prog w) (worldKvs c pl kn bf hv tbf)) :
    WF w c fd cl pl kn wd bl (lap + 1) b9 Zn ts9 sw9 ofd okn ow' pv ks := by
  subst e3 e4
  obtain ⟨s1, s2, s3, s4⟩ := x.sz
  exact ⟨ZO, zfd, zpl, zkn, zwd, hfd, hwd, In, fun v hv => (x.hP v hv).mono hZn (List.prefix_refl _) (List.prefix_refl _), x.hsm.mono hZn, x.Ty, x.K, x.NU.mono hZn, Nat.le_succ_of_le s1, Nat.le_succ_of_le s2, Nat.le_succ_of_le s3, Nat.le_succ_of_le s4⟩
theorem qeq {Q : Value → Shared → Prop} {v v' : Value} {s : Shared} (e : v' = v) (h : Q v s) : Q v' s := e.symm ▸ h
noncomputable def czz (wx low : Int) : Kd → Prop
  | .bad => wx = 0 ∨ low < 0 | .lim => wx ≠ 0 ∧ 0 < low ∧ 4096 < wx + low | .zero => wx ≠ 0 ∧ low = 0 | .ok => wx ≠ 0 ∧ 0 < low ∧ wx + low ≤ 4096
noncomputable def cze (wx low high : Int) : Kd → Prop
  | .bad => wx = 0 ∨ ¬ (0 ≤ low ∧ low ≤ high ∧ high < wx) | .ok => wx ≠ 0 ∧ 0 ≤ low ∧ low ≤ high ∧ high < wx | _ => False
noncomputable def czc (wx wx2 : Int) : Kd → Prop
  | .bad => wx = 0 ∨ wx2 = 0 | .lim => wx ≠ 0 ∧ wx2 ≠ 0 ∧ 4096 < wx + wx2 | .ok => wx ≠ 0 ∧ wx2 ≠ 0 ∧ wx + wx2 ≤ 4096 | _ => False
section
variable {wx wx2 low high d t0 : Int} {kd : Kd} {t tt0 : Tok} {ts ts' : List Tm} {sw sw' : List Int} {b b' : BSt} {op : Str} {al : List Int} {dk : EK}
theorem czz_ex : ∃ k, czz wx low k := by
  by_cases h : wx = 0 ∨ low < 0
  · exact ⟨.bad, h⟩
  · rcases Int.lt_or_le 0 low with h0 | h0
    · rcases Int.lt_or_le 4096 (wx + low) with h1 | h1
      · exact ⟨.lim, fun q => h (.inl q), h0, h1⟩
      · exact ⟨.ok, fun q => h (.inl q), h0, h1⟩
    · exact ⟨.zero, fun q => h (.inl q), Int.le_antisymm h0 (Int.not_lt.mp fun q => h (.inr q))⟩
theorem cze_ex : ∃ k, cze wx low high k := by
  by_cases h : wx = 0 ∨ ¬ (0 ≤ low ∧ low ≤ high ∧ high < wx)
  · exact ⟨.bad, h⟩
  · exact ⟨.ok, fun q => h (.inl q), Decidable.not_not.mp fun q => h (.inr q)⟩
theorem czc_ex : ∃ k, czc wx wx2 k := by
  by_cases h : wx = 0 ∨ wx2 = 0
  · exact ⟨.bad, h⟩
  · rcases Int.lt_or_le 4096 (wx + wx2) with h1 | h1
    · exact ⟨.lim, fun q => h (.inl q), fun q => h (.inr q), h1⟩
    · exact ⟨.ok, fun q => h (.inl q), fun q => h (.inr q), h1⟩
theorem czz_bad (x : czz wx low kd) (h : wx = 0 ∨ low < 0) : kd = .bad := by
  cases kd with
  | bad => rfl
  | zero => obtain ⟨x1, x2⟩ := x; exact (h.elim x1 fun q => Int.ne_of_lt q x2).elim
  | _ => obtain ⟨x1, x2, _⟩ := x; exact (h.elim x1 fun q => Int.lt_asymm q x2).elim
theorem czz_lim (x : czz wx low kd) (a : wx ≠ 0) (b : 0 < low) (c : 4096 < wx + low) : kd = .lim := by
  cases kd with
  | bad => exact (Or.elim x a fun q => Int.lt_asymm q b).elim
  | lim => rfl
  | zero => obtain ⟨_, x2⟩ := x; exact (Int.ne_of_gt b x2).elim
  | ok => obtain ⟨_, _, x3⟩ := x; exact (Int.not_lt.mpr x3 c).elim
theorem czz_zero (x : czz wx low kd) (a : wx ≠ 0) (b : low = 0) : kd = .zero := by
  cases kd with
  | bad => exact (Or.elim x a fun q => Int.ne_of_lt q b).elim
  | zero => rfl
  | _ => obtain ⟨_, x2, _⟩ := x; exact (Int.ne_of_gt x2 b).elim
theorem czz_ok (x : czz wx low kd) (a : wx ≠ 0) (b : 0 < low) (c : wx + low ≤ 4096) : kd = .ok := by
  cases kd with
  | bad => exact (Or.elim x a fun q => Int.lt_asymm q b).elim
  | lim => obtain ⟨_, _, x3⟩ := x; exact (Int.not_lt.mpr c x3).elim
  | zero => obtain ⟨_, x2⟩ := x; exact (Int.ne_of_gt b x2).elim
  | ok => rfl
theorem cze_bad (x : cze wx low high kd) (h : wx = 0 ∨ ¬ (0 ≤ low ∧ low ≤ high ∧ high < wx)) : kd = .bad := by
  cases kd with
  | bad => rfl
  | ok => obtain ⟨x1, x2⟩ := x; exact (h.elim x1 fun q => q x2).elim
  | _ => exact False.elim x
theorem cze_ok (x : cze wx low high kd) (a : wx ≠ 0) (b : 0 ≤ low) (c : low ≤ high) (d : high < wx) : kd = .ok := by
  cases kd with
  | bad => exact (Or.elim x a fun q => q ⟨b, c, d⟩).elim
  | ok => rfl
  | _ => exact False.elim x
theorem czc_bad (x : czc wx wx2 kd) (h : wx = 0 ∨ wx2 = 0) : kd = .bad := by
  cases kd with
  | bad => rfl
  | zero => exact False.elim x
  | _ => obtain ⟨x1, x2, _⟩ := x; exact (h.elim x1 x2).elim
theorem czc_lim (x : czc wx wx2 kd) (a : wx ≠ 0) (b : wx2 ≠ 0) (c : 4096 < wx + wx2) : kd = .lim := by
  cases kd with
  | bad => exact (Or.elim x a b).elim
  | lim => rfl
  | zero => exact False.elim x
  | ok => obtain ⟨_, _, x3⟩ := x; exact (Int.not_lt.mpr x3 c).elim
theorem czc_ok (x : czc wx wx2 kd) (a : wx ≠ 0) (b : wx2 ≠ 0) (c : wx + wx2 ≤ 4096) : kd = .ok := by
  cases kd with
  | bad => exact (Or.elim x a b).elim
  | lim => obtain ⟨_, _, x3⟩ := x; exact (Int.not_lt.mpr c x3).elim
  | zero => exact False.elim x
  | ok => rfl
theorem due_bad (e : kd = .bad) : .str (Str.ofString "sort") t = dueV kd d t := e ▸ rfl
theorem due_lim (e : kd = .lim) : .str (Str.ofString "limit") t = dueV kd d t := e ▸ rfl
theorem due_ok (e : kd = .ok) : .int d t = dueV kd d t := e ▸ rfl
theorem due_zo (x : czz wx low kd) (a : wx ≠ 0) (b : 0 ≤ low) (c : wx + low ≤ 4096) : .int d t = dueV kd d t := by
  rcases Int.lt_or_le 0 low with h | h
  · exact due_ok (czz_ok x a h c)
  · rw [czz_zero x a (Int.le_antisymm h b)]; rfl
theorem ask_bad (e : kd = .bad) : askV kd ts ts sw sw b b op al dk d t0 tt0 (.str (Str.ofString "sort") t) := e ▸ ⟨⟨_, rfl⟩, rfl, rfl, rfl⟩
theorem ask_lim (e : kd = .lim) : askV kd ts ts sw sw b b op al dk d t0 tt0 (.str (Str.ofString "limit") t) := e ▸ ⟨⟨_, rfl⟩, rfl, rfl, rfl⟩
theorem ask_zero (e : kd = .zero) : askV kd ts ts sw sw b b op al dk d t0 tt0 (.int t0 tt0) := e ▸ ⟨rfl, rfl, rfl, rfl⟩
theorem ask_ok {r : Nat} (e : kd = .ok) (M : Made ts ts' sw' r op al d dk) (l : sw'.length ≤ sw.length + 1) : askV kd ts ts' sw sw' b b' op al dk d t0 tt0 (.int r t) := e ▸ ⟨⟨_, _, rfl, M⟩, l⟩
end
section
variable {w : World} {mean : ExcName → Option Value} {mg mb : Str → Option Value} {dp un : Nat} {gd : Option (List Code)} {env : Env} {outer : List Env} {A₀ : Around} {base h₀ g₀ : Heap} {L : Addr} {m : Str → Option Value} {s : Shared} {Q E : Value → Shared → Prop}
    {c : BA} {b : BSt} {Z : List (Addr × Obj)} {ts : List Tm} {sw : List Int} {fd cl pl kn wd pa : Nat} {ofd ofd0 okn ow oX : Obj} {vs pv prt : List Value} {n pn lap pq : Nat} {ks : List (List EK × Addr × Value)} {bl k9 d t0 : Int} {to tt0 tk0 tb : Tok} {op : Str} {dv : Value} {al : List Int} {dk : EK} {kd : Kd}
    {fa : Addr} {cdx : Value} {name qual : Str} {params : Arguments} {body : List Stmt} {scope : Scope} {dV kV doc pm cdv ct oc9 : Value} {an od : Option Addr} {osl : Array (Option Value)} {qk : Flow → Shared → Prop} {L' : Addr}
set_option maxHeartbeats 20000000 in
/-- from `world['before'], due = ..` on, by the case -/
theorem step_mid (ho : (heap w.params).lookup 736 = some ⟨oc9, od, .func (fnOf name qual params body scope dV kV doc pm an cdv ct), osl⟩) (B1 : Below ({ handled := none, depth := dp, frames := some outer, guards := gd, units := un } : Around) base outer h₀) (F1 : Fr h₀ L' s.heap m) (X1 : (heap w.params).In h₀) (T1 : Top view (looseW view []) mean mg mb h₀) (hdp : dp ≤ 420) (hun : un ≤ 410)
    (N1 : News h₀ L' s.heap ((pa, LO prt pq) :: (L' + 1, oX) :: stepLed w.params c b fd cl pl kn wd ofd okn ow vs pv n pn Z)) (hoX : oX.data = .cell none) (O : c.Ord) (OX : fd < cl ∧ cl < c.bd ∧ c.bv < pl ∧ pl < wd ∧ wd < kn) (lo : (kn == sysModules) = false)
    (m1 : m (Str.ofString "op") = some (.str op to)) (m2 : m (Str.ofString "parts") = some (.ref pa)) (m3 : m (Str.ofString "data") = some dv) (m5 : m (Str.ofString "world") = some (.ref wd)) (m6 : m (Str.ofString "pool") = some (.ref pl))
    (hpaL : @LT.lt Nat _ (L' + 1) pa) (zL : ∀ p ∈ Z, p.1 ≠ (L' + 1 : Nat)) (hwL : @LT.lt Nat _ kn L')
    (D6 : ofd.IsDictOf (PySem.strKind PySem.Challenge.rw_nz0152_01.row.prog w) (feedKvs cl k9 bl tk0 tb)) (hk0 : 0 ≤ k9) (hk1 : k9 ≤ 10 + 10 * (lap + 1)) (hlap : lap ≤ 50) (WX : WF w c fd cl pl kn wd bl lap b Z ts sw ofd0 okn ow pv ks)
    (hc : caseOk kd Z ts sw op prt al dk dv d t0 tt0)
    (hdue : ∀ {Q E : Value → Shared → Prop} {s' : Shared} {V : List (Addr × Obj)}, (∀ p ∈ (pa, LO prt pq) :: Z, p ∈ V) → Fr h₀ L' s'.heap m → News h₀ L' s'.heap V →
      (∀ h' tk' t, Fr h₀ L' h' m → News h₀ L' h' V → Q (dueV kd d t) { s' with heap := h', toks := tk' }) → wpAny (model PySem.Challenge.rw_nz0152_01.row.prog w) (({ handled := none, depth := dp, frames := some outer, guards := gd, units := un } : Around).deeper (envOfC qual scope L' 736 cdv)) (call (.ref 724) [.str op to, .ref pa, dv]) Q E s')
    (hask : ∀ {Q E : Value → Shared → Prop} {s' : Shared} {m' : Str → Option Value} {ow' : Obj} {bf : Int} {hv : Value} {tbf : Tok}, Fr h₀ L' s'.heap m' → ow'.IsDictOf (PySem.strKind PySem.Challenge.rw_nz0152_01.row.prog w) (worldKvs c pl kn bf hv tbf) →
      News h₀ L' s'.heap (bankLed w.params c b ((wd, ow') :: (pa, LO prt pq) :: (fd, ofd) :: (cl, LO vs n) :: (L' + 1, oX) :: (pl, LO pv pn) :: (kn, okn) :: Z)) →
      (∀ hv' h' tk' h₁ b' Z' ts' sw', KtsTurn (outer.filterMap (·.frame)) h₀ h₁ → Fr h₁ L' h' m' → Below ({ handled := none, depth := dp, frames := some outer, guards := gd, units := un } : Around) base outer h₁ → (heap w.params).In h₁ → Top view (looseW view []) mean mg mb h₁ → KtsDicts (outer.filterMap (·.frame)) h₁ →
        News h₁ L' h' (bankLed w.params c b' Z') → Asked w c ((wd, ow') :: (pa, LO prt pq) :: (fd, ofd) :: (cl, LO vs n) :: (L' + 1, oX) :: (pl, LO pv pn) :: (kn, okn) :: Z) kd ts ts' sw sw' b b' Z' op al dk d t0 tt0 hv' → Q hv' { s' with heap := h', toks := tk' }) →
      wpAny (model PySem.Challenge.rw_nz0152_01.row.prog w) (({ handled := none, depth := dp, frames := some outer, guards := gd, units := un } : Around).deeper (envOfC qual scope L' 736 cdv)) (call (.ref 731) [.ref wd, .str op to, .ref pa, dv]) Q E s')
    (ret : ∀ h₁ h' tk' m' b' Z' ts' sw' ofd' okn' ow' pv' pn' ks', KtsTurn (outer.filterMap (·.frame)) h₀ h₁ → Fr h₁ L' h' m' → Below ({ handled := none, depth := dp, frames := some outer, guards := gd, units := un } : Around) base outer h₁ → (heap w.params).In h₁ → Top view (looseW view []) mean mg mb h₁ → KtsDicts (outer.filterMap (·.frame)) h₁ →
      News h₁ L' h' (stepLed w.params c b' fd cl pl kn wd ofd' okn' ow' vs pv' n pn' Z') → WF w c fd cl pl kn wd bl (lap + 1) b' Z' ts' sw' ofd' okn' ow' pv' ks' → (∀ p ∈ Z, p ∈ Z') → qk (.ret (.bool true)) { s with heap := h', toks := tk' }) :
    wpAny (model PySem.Challenge.rw_nz0152_01.row.prog w) (({ handled := none, depth := dp, frames := some outer, guards := gd, units := un } : Around).deeper (envOfC qual scope L' 736 cdv)) (execs (body.drop 3) (envOfC qual scope L' 736 cdv)) qk E s := by
  revert hdue hask
  k_dflt (apply body_at ho)
  case h' => k_is
  intro ho'
  clear ho
  intro hdue hask
  obtain ⟨bf, hv, tbf, hwd⟩ := WX.hwd
  have ZO := WX.ZO
  have zfd := WX.zfd
  have zpl := WX.zpl
  have zkn := WX.zkn
  have zwd := WX.zwd
  have I := WX.I
  have hP := WX.hP
  have hsm := WX.hsm
  have Ty := WX.Ty
  have KN := WX.K
  have NU := WX.NU
  have hpl := WX.sz.1
  have hlt := WX.sz.2.1
  have hls := WX.sz.2.2.1
  have hks := WX.sz.2.2.2
  have S := oxs O OX
  have nt1 := I.nt.1
  have n1 : fd ≠ wd := Nat.ne_of_lt S.fw
  have n2 : cl ≠ wd := Nat.ne_of_lt S.cw
  have n3 : @LT.lt Nat _ wd pa := Nat.lt_trans S.wk (Nat.lt_trans (Nat.lt_succ_of_lt hwL) hpaL)
  have n4 : @LT.lt Nat _ wd (L' + 1) := Nat.lt_trans S.wk (Nat.lt_succ_of_lt hwL)
  have n5 : @Ne Nat pl wd := Nat.ne_of_lt S.pw
  have n6 : @Ne Nat kn wd := Nat.ne_of_gt S.wk
  have hWwd : ∀ p ∈ bankLed w.params c b Z, p.1 ≠ wd := led_off O (.inr S.vw) zwd
  have N2 : News h₀ L' s.heap ((c.bk, instObj 677 c.bd) :: (c.bd, bankDict w.params c) :: (c.to, LO b.vo b.co) :: (pa, LO prt pq) :: (L' + 1, oX) :: (fd, ofd) :: (cl, LO vs n) :: (pl, LO pv pn) :: (kn, okn) :: (wd, ow) :: bankLed w.params c b Z) := nc N1 (nc N1 (nc N1 N1 (in7 _ mem4)) (in7 _ mem1)) (in7 _ mem0)
  have n7 : @Ne Nat c.to wd := hWwd (c.to, LO b.vo b.co) mem4
  have n8 : @Ne Nat c.bk wd := hWwd (c.bk, instObj 677 c.bd) mem0
  have n9 : @Ne Nat c.bd wd := hWwd (c.bd, bankDict w.params c) mem1
  clear N1
  obtain ⟨W, hZW, hW⟩ : ∃ W, (∀ p ∈ Z, p ∈ W) ∧ bankLed w.params c b Z = W := ⟨_, bank_tl, rfl⟩
  rw [hW] at N2 hWwd
  simp only [List.drop]
  try k_fold
  k_steps
  all_goals (try delta Stop)
  rename Fr h₀ L' _ _ => F9
  rename News h₀ L' _ _ => N9
  refine hdue (sub_cons (by k_mem) fun p hp => (by k_all : ∀ p ∈ W, p ∈ _) p (hZW p hp)) F9 N9 fun h9 tk9 td F6 N6 => ?_
  clear F9 N9 hdue
  dsimp only
  k_steps
  all_goals (try delta Stop)
  rename Fr h₀ L' _ _ => F7
  rename News h₀ L' _ _ => N7
  rename Obj.IsDictOf _ _ _ => DW
  rename Obj => oW
  subst hW
  refine hask F7 DW (news_sub N7 (by k_all)) fun hv' h5 tk5 h₁ b9 Z9 ts9 sw9 KT1 F2 B2 X2 T2 D2 N1 A => ?_
  clear hask
  obtain ⟨I9, zs9, ZO9, pre9, hv9⟩ := A
  obtain ⟨Zn, N3, In, ZOn, hZn, hpaN, tupN, zf, zp, zk, zw, zl⟩ := heard_ok (n := n) (pn := pn) N1 I9 ZO9 (fun p hp => zs9 p (in7 p hp)) (zs9 _ mem2) (zs9 _ mem3) (zs9 _ mem5) (zs9 _ mem6) (zs9 _ mem0) (zs9 _ mem4) (zs9 _ mem1) D6 DW NU hoX OX zfd zpl zkn zwd zL hwL hpaL O
  dsimp only
  have hW2 : ∀ p ∈ bankLed w.params c b9 Zn, p.1 ≠ wd := led_off O (.inr S.vw) zw
  clear N1 N7 F7 I9 zs9 ZO9 tupN
  dsimp only [stepLed] at N3
  obtain ⟨W2, hWe⟩ : ∃ W, bankLed w.params c b9 Zn = W := ⟨_, rfl⟩
  rw [hWe] at N3 hW2
  k_steps
  all_goals (try delta Stop)
  rename Fr h₁ L' _ _ => F9
  rename News h₁ L' _ _ => N9
  rename Obj.IsDictOf _ _ _ => DH
  subst hWe
  have NF := news_sub (news' := (L' + 1, oX) :: stepLed w.params c b9 fd cl pl kn wd ofd okn _ vs pv n pn Zn) N9 (by k_all)
  clear N9 N3 F2 hW2 hWwd
  cases kd with
  | bad =>
    obtain ⟨⟨tx, e1⟩, _, e3, e4⟩ := hv9
    subst e1
    exact mid_bad (unhid ho') B2 F9 X2 T2 hdp hun NF (by with_unfolding_all rfl) (by with_unfolding_all exact m5) (.inl rfl) DH (by rw [e3, ← nt1]) In (by rw [e3]; omega) fun h' tk' F' N' => ret h₁ _ _ _ b9 Zn ts9 sw9 _ okn _ pv pn ks KT1 F' B2 X2 T2 D2 N' (WX.refused e3 e4 hZn ZOn zf zp zk zw In ⟨_, _, _, D6, hk0, hk1⟩ ⟨_, _, _, DH⟩) hZn
  | lim =>
    obtain ⟨⟨tx, e1⟩, _, e3, e4⟩ := hv9
    subst e1
    exact mid_bad (unhid ho') B2 F9 X2 T2 hdp hun NF (by with_unfolding_all rfl) (by with_unfolding_all exact m5) (.inr rfl) DH (by rw [e3, ← nt1]) In (by rw [e3]; omega) fun h' tk' F' N' => ret h₁ _ _ _ b9 Zn ts9 sw9 _ okn _ pv pn ks KT1 F' B2 X2 T2 D2 N' (WX.refused e3 e4 hZn ZOn zf zp zk zw In ⟨_, _, _, D6, hk0, hk1⟩ ⟨_, _, _, DH⟩) hZn
  | zero =>
    obtain ⟨e1, _, e3, e4⟩ := hv9
    obtain ⟨hx, tz, e0, x1, x2, x3, q0, hd, hp, he0⟩ := hc
    subst e1 hd hp
    exact mid_zero (unhid ho') B2 F9 X2 T2 hdp hun (nc NF (nc NF (nc NF (fun p hp => NF p (.tail _ hp)) (in6 _ (bank_tl _ (hZn _ he0)))) (in6 _ (bank_tl _ hpaN))) mem0) (by with_unfolding_all exact m1) (by with_unfolding_all exact m2) (by with_unfolding_all exact m3) (by with_unfolding_all rfl) (by with_unfolding_all exact m5) hx DH (by rw [e3, ← nt1]) In (by rw [e3]; omega) fun h' tk' F' N' => ret h₁ _ _ _ b9 Zn ts9 sw9 _ okn _ pv pn ks KT1 F' B2 X2 T2 D2 N' (WX.refused e3 e4 hZn ZOn zf zp zk zw In ⟨_, _, _, D6, hk0, hk1⟩ ⟨_, _, _, DH⟩) hZn
  | ok =>
    obtain ⟨⟨r9, tr9, e1, MD⟩, len9⟩ := hv9
    obtain ⟨OC, hd, hz⟩ := hc
    subst e1
    exact mid_ok (unhid ho') B2 F9 X2 T2 hdp hun NF hoX O OX lo (by with_unfolding_all exact m1) (by with_unfolding_all exact m2) (by with_unfolding_all exact m3) (by with_unfolding_all rfl) (by with_unfolding_all exact m5) (by with_unfolding_all exact m6) hpaN (OC.monoZ hZn) hd zl ZOn zf zp zk zw DH (by rw [← nt1]) In Ty KN (NU.mono hZn) pre9 MD hpl hlt (Nat.le_trans len9 (by omega)) hks hlap I.nt.2.2.2.2 hwL ⟨_, _, _, D6, hk0, hk1⟩ (fun v hv => (hP v hv).mono hZn (List.prefix_refl _) (List.prefix_refl _)) (hsm.mono hZn)
      (fun h' tk' pn' okn' ks' Z' pv' F' N' W' zz => ret h₁ _ _ _ b9 Z' ts9 sw9 _ okn' _ pv' pn' ks' KT1 F' B2 X2 T2 D2 N' W' fun p hp => zz p (hZn p hp)) hz
end
end
section
open PySem PySem.W PySem.Calls PyProof.Rows
set_option hygiene false in
local macro_rules | `(tactic| walk_at "execs cons") => `(tactic| with_reducible refine st_asgT ?_)
theorem vsub {α : Type} {w0 p0 f0 c0 l0 q0 k0 d0 e0 x : α} {Z : List α} (h : x ∈ w0 :: p0 :: f0 :: c0 :: l0 :: q0 :: k0 :: d0 :: Z) : x ∈ w0 :: p0 :: e0 :: d0 :: f0 :: c0 :: l0 :: q0 :: k0 :: Z :=
  (sub_cons mem0 (sub_cons mem1 (sub_cons mem4 (sub_cons mem5 (sub_cons mem6 (sub_cons mem7 (sub_cons mem8 (sub_cons mem3 in9))))))) : ∀ p ∈ w0 :: p0 :: f0 :: c0 :: l0 :: q0 :: k0 :: d0 :: Z, p ∈ w0 :: p0 :: e0 :: d0 :: f0 :: c0 :: l0 :: q0 :: k0 :: Z) x h
theorem case_e {Z : List (Addr × Obj)} {ts : List Tm} {sw : List Int} {kd : Kd} {wx low high t : Int} {tt tw th tlo : Tok} {x2 x3 : Value} {q0 : Nat} {e0 dt : Addr} (hk : cze wx low high kd) (h1 : wx ≤ 4096) (he0 : (e0, LO [.int t tt, .int wx tw, x2, x3] q0) ∈ Z) (W0 : wof ts sw t wx) (EB : EntBits Z wx x2 x3) (hd : (dt, tupO [.int high th, .int low tlo]) ∈ Z) :
    caseOk kd Z ts sw (Str.ofString "extract") [.ref e0] [t] (.t [high, low]) (.ref dt) (high - low + 1) t tt := by
  cases kd with
  | bad => trivial
  | lim => trivial
  | zero => exact hk.elim
  | ok => obtain ⟨a1, a2, a3, a4⟩ := hk; exact ⟨.extr he0 W0 EB hd a2 a3 a4, ⟨by omega, by omega⟩, fun h => absurd h (by decide)⟩
section
variable {w : World} {mean : ExcName → Option Value} {mg mb : Str → Option Value} {dp un : Nat} {gd : Option (List Code)} {env : Env} {outer : List Env} {A₀ : Around} {base h₀ g₀ : Heap} {L : Addr} {m : Str → Option Value} {s : Shared} {Q E : Value → Shared → Prop}
    {c : BA} {b : BSt} {Z : List (Addr × Obj)} {ts : List Tm} {sw : List Int} {fd cl pl kn wd pa e0 : Nat} {ofd ofd0 okn ow oX : Obj} {vs pv : List Value} {ns : List Int} {n pn lap q0 : Nat} {ks : List (List EK × Addr × Value)} {bl great t wx k : Int} {to tg tt tw tk0 tb tz : Tok} {x2 x3 : Value}
    {fa : Addr} {cdx : Value} {name qual : Str} {params : Arguments} {body : List Stmt} {scope : Scope} {dV kV doc pm cdv ct oc9 : Value} {an od : Option Addr} {osl : Array (Option Value)} {qk : Flow → Shared → Prop} {L' : Addr}
set_option maxHeartbeats 20000000 in
theorem step_extr (ho : (heap w.params).lookup 736 = some ⟨oc9, od, .func (fnOf name qual params body scope dV kV doc pm an cdv ct), osl⟩) (B1 : Below ({ handled := none, depth := dp, frames := some outer, guards := gd, units := un } : Around) base outer h₀) (F1 : Fr h₀ L' s.heap m) (X1 : (heap w.params).In h₀) (T1 : Top view (looseW view []) mean mg mb h₀) (hdp : dp ≤ 420) (hun : un ≤ 410)
    (XB : (heap w.params).In base) (TB : Top view (looseW view []) mean mg mb base) (D : KtsDicts (outer.filterMap (·.frame)) h₀)
    (N1 : News h₀ L' s.heap ((pa, LO [.ref e0] 0) :: (L' + 1, oX) :: stepLed w.params c b fd cl pl kn wd ofd okn ow vs pv n pn Z)) (hoX : oX.data = .cell none) (O : c.Ord) (OX : fd < cl ∧ cl < c.bd ∧ c.bv < pl ∧ pl < wd ∧ wd < kn) (lo : (kn == sysModules) = false)
    (m2 : m (Str.ofString "parts") = some (.ref pa)) (m3 : m (Str.ofString "data") = some (.int 0 tz)) (m5 : m (Str.ofString "world") = some (.ref wd)) (m6 : m (Str.ofString "pool") = some (.ref pl)) (m7 : m (Str.ofString "feed") = some (.ref fd)) (m8 : m (Str.ofString "great") = some (.int great tg))
    (he0 : (e0, LO [.int t tt, .int wx tw, x2, x3] q0) ∈ Z) (W0 : wof ts sw t wx) (EB : EntBits Z wx x2 x3) (hpaL : @LT.lt Nat _ (L' + 1) pa) (zL : ∀ p ∈ Z, @LT.lt Nat _ p.1 L') (hwL : @LT.lt Nat _ kn L')
    (D6 : ofd.IsDictOf (PySem.strKind PySem.Challenge.rw_nz0152_01.row.prog w) (feedKvs cl k bl tk0 tb)) (hk0 : 0 ≤ k) (hk1 : k ≤ 10 + 10 * lap + 3) (hI : IntsAre vs ns) (hns : ns.length ≤ 40) (hb0 : 0 ≤ bl) (hb1 : bl ≤ 10000) (hlap : lap ≤ 50) (WX : WF w c fd cl pl kn wd bl lap b Z ts sw ofd0 okn ow pv ks)
    (ret : ∀ h₁ h' tk' m' b' Z' ts' sw' ofd' okn' ow' pv' pn' ks', KtsTurn (outer.filterMap (·.frame)) h₀ h₁ → Fr h₁ L' h' m' → Below ({ handled := none, depth := dp, frames := some outer, guards := gd, units := un } : Around) base outer h₁ → (heap w.params).In h₁ → Top view (looseW view []) mean mg mb h₁ → KtsDicts (outer.filterMap (·.frame)) h₁ →
      News h₁ L' h' (stepLed w.params c b' fd cl pl kn wd ofd' okn' ow' vs pv' n pn' Z') → WF w c fd cl pl kn wd bl (lap + 1) b' Z' ts' sw' ofd' okn' ow' pv' ks' → (∀ p ∈ Z, p ∈ Z') → qk (.ret (.bool true)) { s with heap := h', toks := tk' })
    (m1 : m (Str.ofString "op") = some (.str (Str.ofString "extract") to)) :
    wpAny (model PySem.Challenge.rw_nz0152_01.row.prog w) (({ handled := none, depth := dp, frames := some outer, guards := gd, units := un } : Around).deeper (envOfC qual scope L' 736 cdv)) (execs (body.drop 2) (envOfC qual scope L' 736 cdv)) qk E s := by
  k_dflt (apply body_at ho)
  case h' => k_is
  intro ho'
  clear ho
  have ZO := WX.ZO
  have zfd := WX.zfd
  have zpl := WX.zpl
  have zkn := WX.zkn
  have zwd := WX.zwd
  have I := WX.I
  have hP := WX.hP
  have hsm := WX.hsm
  have hpl := WX.sz.1
  have hlt := WX.sz.2.1
  have hls := WX.sz.2.2.1
  have hk513 := kk1 hk1 hlap
  have S := oxs O OX
  have k1 : @LT.lt Nat _ kn (L' + 1) := Nat.lt_succ_of_lt hwL
  have k2 : @LT.lt Nat _ kn pa := Nat.lt_trans k1 hpaL
  obtain ⟨v1, v2, v3, v4, v5, v6⟩ := ox5 S k1
  obtain ⟨u1, u2, u3, u4, u5, u6⟩ := ox5 S k2
  have n1 := S.fw; have n2 := S.cw; have n3 := S.fk
  have hbp : c.bv < pa := Nat.lt_trans S.vk (Nat.lt_trans (Nat.lt_succ_of_lt hwL) hpaL)
  obtain ⟨nt1, nt2, nt3, nt4, nt5⟩ := id I.nt
  have W8 := wof_nonneg I W0
  have hWfd : ∀ p ∈ bankLed w.params c b Z, p.1 ≠ fd := led_off O (.inl S.fb) zfd
  have hWpl : ∀ p ∈ bankLed w.params c b Z, p.1 ≠ pl := led_off O (.inr S.vp) zpl
  have hWkn : ∀ p ∈ bankLed w.params c b Z, p.1 ≠ kn := led_off O (.inr S.vk) zkn
  have hWwd : ∀ p ∈ bankLed w.params c b Z, p.1 ≠ wd := led_off O (.inr S.vw) zwd
  have hWpa : ∀ p ∈ bankLed w.params c b Z, p.1 ≠ pa := led_off O (.inr hbp) fun p hp => Nat.ne_of_lt (Nat.lt_trans (zL p hp) (Nat.lt_trans (Nat.lt_succ_self _) hpaL))
  have n4 : @Ne Nat c.to wd := hWwd (c.to, LO b.vo b.co) mem4
  have n5 : @Ne Nat c.bk wd := hWwd (c.bk, instObj 677 c.bd) mem0
  have n6 : @Ne Nat c.bd wd := hWwd (c.bd, bankDict w.params c) mem1
  have n7 : @Ne Nat c.to fd := hWfd (c.to, LO b.vo b.co) mem4
  have n8 : @Ne Nat c.bk fd := hWfd (c.bk, instObj 677 c.bd) mem0
  have n9 : @Ne Nat c.bd fd := hWfd (c.bd, bankDict w.params c) mem1
  have n10 : @Ne Nat c.to pa := hWpa (c.to, LO b.vo b.co) mem4
  have n11 : @Ne Nat c.bk pa := hWpa (c.bk, instObj 677 c.bd) mem0
  have n12 : @Ne Nat c.bd pa := hWpa (c.bd, bankDict w.params c) mem1
  have ne1 : e0 ≠ fd := zfd _ he0
  have ne2 : e0 ≠ pl := zpl _ he0
  have ne3 : e0 ≠ kn := zkn _ he0
  have ne4 : e0 ≠ wd := zwd _ he0
  have ne6 : @LT.lt Nat _ e0 L' := zL _ he0
  have hfc : fd ≠ cl := Nat.ne_of_lt S.fc
  have hfp : fd ≠ pl := Nat.ne_of_lt S.fp
  have N2 : News h₀ L' s.heap ((pa, LO [.ref e0] 0) :: (e0, LO [.int t tt, .int wx tw, x2, x3] q0) :: (c.bk, instObj 677 c.bd) :: (c.bd, bankDict w.params c) :: (c.to, LO b.vo b.co) :: (L' + 1, oX) :: (fd, ofd) :: (cl, LO vs n) :: (pl, LO pv pn) :: (kn, okn) :: (wd, ow) :: bankLed w.params c b Z) := nc N1 (nc N1 (nc N1 (nc N1 (nc N1 (fun p hp => N1 p (.tail _ hp)) (by k_mem)) (by k_mem)) (by k_mem)) (.tail _ (.tail _ (.tail _ (.tail _ (.tail _ (.tail _ (.tail _ (bankLed_tail _ he0))))))))) (by k_mem)
  clear N1
  have X1 := X1
  have T1 := T1
  obtain ⟨W, hW⟩ : ∃ W, bankLed w.params c b Z = W := ⟨_, rfl⟩
  rw [hW] at N2 hWfd hWpl hWkn hWwd hWpa
  simp only [List.drop]
  try k_fold
  k_steps
  all_goals (try delta Stop)
  rename Fr h₀ L' _ _ => F9
  rename News h₀ L' _ _ => N9
  refine' spot (Y := (pa, LO [.ref e0] 0) :: (e0, LO [.int t tt, .int wx tw, x2, x3] q0) :: (c.bk, instObj 677 c.bd) :: (c.bd, bankDict w.params c) :: (c.to, LO b.vo b.co) :: (L' + 1, oX) :: (pl, LO pv pn) :: (kn, okn) :: (wd, ow) :: W) B1 ?a0 X1 T1 ?a1 ?a2 ?a3 ?a4 ?a5 hfc ?a6 D6 hI ?a7 ?a8 hb0 hb1 W8.1 hns fun high th h7 tk7 o7 t7 k7 F7 N7 D7 k70 k71 hi0 hi1 => ?_
  case a0 => exact F9
  case a1 => rfl
  case a2 => rfl
  case a3 => exact dle hdp rfl
  case a4 => exact ule hun rfl
  case a5 => exact (news_sub N9 (by k_all))
  case a6 => k_all
  case a7 => omega
  case a8 => omega
  clear F9 N9
  dsimp only
  k_steps
  all_goals (try delta Stop)
  refine tk_cons (s := s) ?_
  intro tkv
  k_steps
  all_goals (try delta Stop)
  rename Fr h₀ L' _ _ => F9
  rename News h₀ L' _ _ => N9
  refine spot (Y := (pa, LO [.ref e0] 0) :: (e0, LO [.int t tt, .int wx tw, x2, x3] q0) :: (c.bk, instObj 677 c.bd) :: (c.bd, bankDict w.params c) :: (c.to, LO b.vo b.co) :: (L' + 1, oX) :: (pl, LO pv pn) :: (kn, okn) :: (wd, ow) :: W) B1 F9 X1 T1 rfl rfl (dle hdp rfl) (ule hun rfl) (news_sub N9 (by k_all)) hfc (by k_all) D7 hI (by omega) (by omega) hb0 hb1 W8.1 hns fun low tlo h8 tk8 o8 t8 k8 F8 N8 D8 k80 k81 lo0 lo1 => ?_
  clear F9 N9
  dsimp only
  k_steps
  all_goals (try delta Stop)
  rename Fr h₀ L' _ _ => F9
  rename News h₀ L' _ _ => N9
  subst hW
  have NF := news_sub (news' := (pa, LO [.ref e0] 0) :: (L' + 1, oX) :: stepLed w.params c b fd cl pl kn wd o8 okn ow vs pv n pn ((Dk, tupO [.int high th, .int low tlo]) :: Z)) N9 (by k_all)
  have hDk : @LT.lt Nat _ kn Dk := lDk.2.2.2.2.2.2.2.2.2.1
  have zL1 : ∀ p ∈ (Dk, tupO [.int high th, .int low tlo]) :: Z, p.1 ≠ (L' + 1 : Nat) := all_cons (Nat.ne_of_gt lDk.2.2.2.2.2.2.2.1) fun p hp => Nat.ne_of_lt (Nat.lt_succ_of_lt (zL p hp))
  have WX1 := WX.fresh (a := Dk) (o := tupO [.int high th, .int low tlo]) O OX hDk
  have ZA : ∀ o4, c.Off ((wd, o4) :: (pa, LO [.ref e0] 0) :: (e0, LO [.int t tt, .int wx tw, x2, x3] q0) :: (Dk, tupO [.int high th, .int low tlo]) :: (fd, o8) :: (cl, LO vs n) :: (L' + 1, oX) :: (pl, LO pv pn) :: (kn, okn) :: Z) := fun _ =>
    BA.Off.above (BA.Off.above (ZO.add he0 (BA.Off.above (za_off O OX hwL ZO) O (Nat.lt_trans S.vk hDk))) O hbp) O S.vw
  have hl1 : ts.length ≤ 900 := by omega
  have hl2 : sw.length ≤ 900 := by omega
  have hk9 := kk2 hk1 k71 k81
  obtain ⟨kd, hk⟩ := cze_ex (wx := wx) (low := low) (high := high)
  clear N9 hWfd hWpl hWkn hWwd hWpa
  exact step_mid (kd := kd) (d := high - low + 1) (t0 := t) (tt0 := tt) (al := [t]) (dk := .t [high, low]) (unhid ho') B1 F9 X1 T1 hdp hun NF hoX O OX lo (by with_unfolding_all exact m1) (by with_unfolding_all exact m2) (by with_unfolding_all first | rfl | exact m3) (by with_unfolding_all exact m5) (by with_unfolding_all exact m6) hpaL zL1 hwL D8 (by omega) (by omega) hlap WX1 (case_e hk W8.2 (in1 _ he0) W0 (EB.mono in1) mem0)
    (fun hV F N ret => due_extr B1 F X1 T1 rfl rfl (dle hdp rfl) (ule hun rfl) (nc N (nc N (nc N N (hV _ mem1)) (hV _ (in2 _ he0))) (hV _ mem0))
      (fun hb h' tk' t F N => qeq (due_bad (cze_bad hk hb)) (ret h' tk' t F fun p hp => N p (in3 p hp)))
      (fun a1 a2 a3 a4 h' tk' t F N => qeq (due_ok (cze_ok hk a1 a2 a3 a4)) (ret h' tk' t F fun p hp => N p (in3 p hp))))
    (fun F DW N ret => asked_extr B1 F X1 T1 XB TB D KtsTurn.refl rfl rfl (dle hdp rfl) (ule hun rfl) DW (news_sub N (bank_in (bank_sub sub_nil) (sub_cons (bank_tl _ mem0) (sub_cons (bank_tl _ mem1) (sub_cons (bank_tl _ (in8 _ he0)) (sub_cons (bank_tl _ mem7) (sub_cons (bank_tl _ mem2) (sub_cons (bank_tl _ mem3) (sub_cons (bank_tl _ mem4) (sub_cons (bank_tl _ mem5) (sub_cons (bank_tl _ mem6) fun p hp => bank_tl p (in8 p hp)))))))))))) (I.mono fun p hp => in5 p hp) O (ZA _) W0 hl1 hl2
      (fun a1 a2 a3 a4 h' tk' h₁ b' Z' ts' sw' r tr KT F B X T D N I' zs ZO' pre len M => ret _ h' tk' h₁ b' Z' ts' sw' KT F B X T D N ⟨I', fun p hp => zs p (vsub hp), ZO', pre, ask_ok (cze_ok hk a1 a2 a3 a4) M len⟩)
      (fun hb h' tk' h₁ tx KT F B X T D N => ret _ h' tk' h₁ b _ ts sw KT F B X T D N ⟨I.mono fun p hp => in9 p hp, fun p hp => vsub hp, ZA _, List.prefix_refl _, ask_bad (cze_bad hk hb)⟩)) fun h₁ h' tk' m' b' Z' ts' sw' ofd' okn' ow' pv' pn' ks' KT F B X T D N W zz => ret h₁ h' tk' m' b' Z' ts' sw' ofd' okn' ow' pv' pn' ks' KT F B X T D N W fun p hp => zz p (in1 p hp)
end
end
section
open PySem PySem.W PySem.Calls PyProof.Rows
set_option hygiene false in
local macro_rules | `(tactic| walk_at "ite") => `(tactic| (k_closed; with_reducible refine ite_neg (by k_dflt decide) ?_))
set_option hygiene false in
local macro_rules | `(tactic| walk_at "execs cons") => `(tactic| with_reducible refine st_asgT ?_)
theorem nine {a1 a2 a3 a4 a5 a6 a7 a8 a9 : Int} {t1 t2 t3 t4 t5 t6 t7 t8 t9 : Tok} : ∀ i < 9, ∃ many tm, ([.int a1 t1, .int a2 t2, .int a3 t3, .int a4 t4, .int a5 t5, .int a6 t6, .int a7 t7, .int a8 t8, .int a9 t9] : List Value)[i]? = some (.int many tm)
  | 0, _ => ⟨_, _, rfl⟩ | 1, _ => ⟨_, _, rfl⟩ | 2, _ => ⟨_, _, rfl⟩ | 3, _ => ⟨_, _, rfl⟩ | 4, _ => ⟨_, _, rfl⟩ | 5, _ => ⟨_, _, rfl⟩ | 6, _ => ⟨_, _, rfl⟩ | 7, _ => ⟨_, _, rfl⟩ | 8, _ => ⟨_, _, rfl⟩
  | n + 9, h => absurd h (Nat.not_lt_of_le (Nat.le_add_left 9 n))
section
variable {w : World} {mean : ExcName → Option Value} {mg mb : Str → Option Value} {dp un : Nat} {gd : Option (List Code)} {env : Env} {outer : List Env} {A₀ : Around} {base h₀ g₀ : Heap} {L : Addr} {m : Str → Option Value} {s : Shared} {Q E : Value → Shared → Prop}
    {c : BA} {b : BSt} {Z : List (Addr × Obj)} {ts : List Tm} {sw : List Int} {fd cl pl kn wd pa e0 : Nat} {ofd ofd0 okn ow oX : Obj} {vs pv : List Value} {ns : List Int} {n pn lap q0 : Nat} {ks : List (List EK × Addr × Value)} {bl great t wx k : Int} {to tg tt tw tk0 tb tz : Tok} {x2 x3 : Value}
    {fa : Addr} {cdx : Value} {name qual : Str} {params : Arguments} {body : List Stmt} {scope : Scope} {dV kV doc pm cdv ct oc9 : Value} {an od : Option Addr} {osl : Array (Option Value)} {qk : Flow → Shared → Prop} {L' : Addr}
theorem case_z {kd : Kd} (hk : czz wx t0 kd) (h0 : 0 ≤ wx) (he0 : (e0, LO [.int t tt, .int wx tw, x2, x3] q0) ∈ Z) (W0 : wof ts sw t wx) (EB : EntBits Z wx x2 x3) : caseOk kd Z ts sw (Str.ofString "zero_extend") [.ref e0] [t] (.i t0) (.int t0 tz) (wx + t0) t tt := by
  cases kd with
  | bad => trivial
  | lim => trivial
  | zero => exact ⟨.inl rfl, tz, e0, _, _, _, q0, by rw [hk.2], rfl, he0⟩
  | ok => exact ⟨.zero he0 W0 EB (Int.le_of_lt hk.2.1), ⟨by have := hk.2.1; omega, hk.2.2⟩, fun _ many tz h => by injection h with h _; exact h ▸ (Int.ne_of_gt hk.2.1)⟩
set_option maxHeartbeats 20000000 in
theorem step_z (ho : (heap w.params).lookup 736 = some ⟨oc9, od, .func (fnOf name qual params body scope dV kV doc pm an cdv ct), osl⟩) (B1 : Below ({ handled := none, depth := dp, frames := some outer, guards := gd, units := un } : Around) base outer h₀) (F1 : Fr h₀ L' s.heap m) (X1 : (heap w.params).In h₀) (T1 : Top view (looseW view []) mean mg mb h₀) (hdp : dp ≤ 420) (hun : un ≤ 410)
    (XB : (heap w.params).In base) (TB : Top view (looseW view []) mean mg mb base) (D : KtsDicts (outer.filterMap (·.frame)) h₀)
    (N1 : News h₀ L' s.heap ((pa, LO [.ref e0] 0) :: (L' + 1, oX) :: stepLed w.params c b fd cl pl kn wd ofd okn ow vs pv n pn Z)) (hoX : oX.data = .cell none) (O : c.Ord) (OX : fd < cl ∧ cl < c.bd ∧ c.bv < pl ∧ pl < wd ∧ wd < kn) (lo : (kn == sysModules) = false)
    (m2 : m (Str.ofString "parts") = some (.ref pa)) (m3 : m (Str.ofString "data") = some (.int 0 tz)) (m5 : m (Str.ofString "world") = some (.ref wd)) (m6 : m (Str.ofString "pool") = some (.ref pl)) (m7 : m (Str.ofString "feed") = some (.ref fd)) (m8 : m (Str.ofString "great") = some (.int great tg))
    (he0 : (e0, LO [.int t tt, .int wx tw, x2, x3] q0) ∈ Z) (W0 : wof ts sw t wx) (EB : EntBits Z wx x2 x3) (hpaL : @LT.lt Nat _ (L' + 1) pa) (zL : ∀ p ∈ Z, @LT.lt Nat _ p.1 L') (hwL : @LT.lt Nat _ kn L')
    (D6 : ofd.IsDictOf (PySem.strKind PySem.Challenge.rw_nz0152_01.row.prog w) (feedKvs cl k bl tk0 tb)) (hk0 : 0 ≤ k) (hk1 : k ≤ 10 + 10 * lap + 3) (hI : IntsAre vs ns) (hns : ns.length ≤ 40) (hb0 : 0 ≤ bl) (hb1 : bl ≤ 10000) (hlap : lap ≤ 50) (WX : WF w c fd cl pl kn wd bl lap b Z ts sw ofd0 okn ow pv ks)
    (ret : ∀ h₁ h' tk' m' b' Z' ts' sw' ofd' okn' ow' pv' pn' ks', KtsTurn (outer.filterMap (·.frame)) h₀ h₁ → Fr h₁ L' h' m' → Below ({ handled := none, depth := dp, frames := some outer, guards := gd, units := un } : Around) base outer h₁ → (heap w.params).In h₁ → Top view (looseW view []) mean mg mb h₁ → KtsDicts (outer.filterMap (·.frame)) h₁ →
      News h₁ L' h' (stepLed w.params c b' fd cl pl kn wd ofd' okn' ow' vs pv' n pn' Z') → WF w c fd cl pl kn wd bl (lap + 1) b' Z' ts' sw' ofd' okn' ow' pv' ks' → (∀ p ∈ Z, p ∈ Z') → qk (.ret (.bool true)) { s with heap := h', toks := tk' })
    (m1 : m (Str.ofString "op") = some (.str (Str.ofString "zero_extend") to)) :
    wpAny (model PySem.Challenge.rw_nz0152_01.row.prog w) (({ handled := none, depth := dp, frames := some outer, guards := gd, units := un } : Around).deeper (envOfC qual scope L' 736 cdv)) (execs (body.drop 2) (envOfC qual scope L' 736 cdv)) qk E s := by
  k_dflt (apply body_at ho)
  case h' => k_is
  intro ho'
  clear ho
  have ZO := WX.ZO
  have zfd := WX.zfd
  have zpl := WX.zpl
  have zkn := WX.zkn
  have zwd := WX.zwd
  have I := WX.I
  have hP := WX.hP
  have hsm := WX.hsm
  have hpl := WX.sz.1
  have hlt := WX.sz.2.1
  have hls := WX.sz.2.2.1
  have hk513 := kk1 hk1 hlap
  have S := oxs O OX
  have k1 : @LT.lt Nat _ kn (L' + 1) := Nat.lt_succ_of_lt hwL
  have k2 : @LT.lt Nat _ kn pa := Nat.lt_trans k1 hpaL
  obtain ⟨v1, v2, v3, v4, v5, v6⟩ := ox5 S k1
  obtain ⟨u1, u2, u3, u4, u5, u6⟩ := ox5 S k2
  have n1 := S.fw; have n2 := S.cw; have n3 := S.fk
  have hbp : c.bv < pa := Nat.lt_trans S.vk (Nat.lt_trans (Nat.lt_succ_of_lt hwL) hpaL)
  obtain ⟨nt1, nt2, nt3, nt4, nt5⟩ := id I.nt
  have W8 := wof_nonneg I W0
  have hWfd : ∀ p ∈ bankLed w.params c b Z, p.1 ≠ fd := led_off O (.inl S.fb) zfd
  have hWpl : ∀ p ∈ bankLed w.params c b Z, p.1 ≠ pl := led_off O (.inr S.vp) zpl
  have hWkn : ∀ p ∈ bankLed w.params c b Z, p.1 ≠ kn := led_off O (.inr S.vk) zkn
  have hWwd : ∀ p ∈ bankLed w.params c b Z, p.1 ≠ wd := led_off O (.inr S.vw) zwd
  have hWpa : ∀ p ∈ bankLed w.params c b Z, p.1 ≠ pa := led_off O (.inr hbp) fun p hp => Nat.ne_of_lt (Nat.lt_trans (zL p hp) (Nat.lt_trans (Nat.lt_succ_self _) hpaL))
  have n4 : @Ne Nat c.to wd := hWwd (c.to, LO b.vo b.co) mem4
  have n5 : @Ne Nat c.bk wd := hWwd (c.bk, instObj 677 c.bd) mem0
  have n6 : @Ne Nat c.bd wd := hWwd (c.bd, bankDict w.params c) mem1
  have n7 : @Ne Nat c.to fd := hWfd (c.to, LO b.vo b.co) mem4
  have n8 : @Ne Nat c.bk fd := hWfd (c.bk, instObj 677 c.bd) mem0
  have n9 : @Ne Nat c.bd fd := hWfd (c.bd, bankDict w.params c) mem1
  have n10 : @Ne Nat c.to pa := hWpa (c.to, LO b.vo b.co) mem4
  have n11 : @Ne Nat c.bk pa := hWpa (c.bk, instObj 677 c.bd) mem0
  have n12 : @Ne Nat c.bd pa := hWpa (c.bd, bankDict w.params c) mem1
  have ne1 : e0 ≠ fd := zfd _ he0
  have ne2 : e0 ≠ pl := zpl _ he0
  have ne3 : e0 ≠ kn := zkn _ he0
  have ne4 : e0 ≠ wd := zwd _ he0
  have ne6 : @LT.lt Nat _ e0 L' := zL _ he0
  have hfc : fd ≠ cl := Nat.ne_of_lt S.fc
  have hfp : fd ≠ pl := Nat.ne_of_lt S.fp
  have N2 : News h₀ L' s.heap ((pa, LO [.ref e0] 0) :: (e0, LO [.int t tt, .int wx tw, x2, x3] q0) :: (c.bk, instObj 677 c.bd) :: (c.bd, bankDict w.params c) :: (c.to, LO b.vo b.co) :: (L' + 1, oX) :: (fd, ofd) :: (cl, LO vs n) :: (pl, LO pv pn) :: (kn, okn) :: (wd, ow) :: bankLed w.params c b Z) := nc N1 (nc N1 (nc N1 (nc N1 (nc N1 (fun p hp => N1 p (.tail _ hp)) (by k_mem)) (by k_mem)) (by k_mem)) (.tail _ (.tail _ (.tail _ (.tail _ (.tail _ (.tail _ (.tail _ (bankLed_tail _ he0))))))))) (by k_mem)
  clear N1
  have X1 := X1
  have T1 := T1
  obtain ⟨W, hW⟩ : ∃ W, bankLed w.params c b Z = W := ⟨_, rfl⟩
  rw [hW] at N2 hWfd hWpl hWkn hWwd hWpa
  simp only [List.drop]
  try k_fold
  k_steps
  all_goals (try delta Stop)
  rename Fr h₀ L' _ _ => F9
  rename News h₀ L' _ _ => N9
  obtain ⟨vs9, hv9, NL⟩ : ∃ vs9, (∀ i < 9, ∃ many tm, vs9[i]? = some (.int many tm)) ∧ News h₀ L' _ [(Lk, LO vs9 0)] := ⟨_, nine, news_sub N9 (by k_all)⟩
  refine draw (many := 9) (Y := (Lk, LO vs9 0) :: (pa, LO [.ref e0] 0) :: (e0, LO [.int t tt, .int wx tw, x2, x3] q0) :: (c.bk, instObj 677 c.bd) :: (c.bd, bankDict w.params c) :: (c.to, LO b.vo b.co) :: (L' + 1, oX) :: (pl, LO pv pn) :: (kn, okn) :: (wd, ow) :: W) B1 F9 X1 T1 rfl rfl (dle hdp rfl) (ule hun rfl) (news_sub (nc NL N9 (.head _)) (by k_all)) hfc (by k_all) D6 hI hk0 (by omega) hb0 hb1 (by omega) hns fun r tr h8 tk8 o8 t8 F8 N8 D8 r0 r1 => ?_
  clear F9 N9 NL
  obtain ⟨low, tlo, hget⟩ := hv9 r.toNat (tlt (n := 9) (by assumption) (by assumption))
  dsimp only
  k_steps
  all_goals (try delta Stop)
  rename Fr h₀ L' _ _ => F9
  rename News h₀ L' _ _ => N9
  subst hW
  have NF := news_sub (news' := (pa, LO [.ref e0] 0) :: (L' + 1, oX) :: stepLed w.params c b fd cl pl kn wd o8 okn ow vs pv n pn Z) N9 (by k_all)
  have zL1 : ∀ p ∈ Z, p.1 ≠ (L' + 1 : Nat) := fun p hp => Nat.ne_of_lt (Nat.lt_succ_of_lt (zL p hp))
  have ZA : ∀ o4, c.Off ((wd, o4) :: (pa, LO [.ref e0] 0) :: (e0, LO [.int t tt, .int wx tw, x2, x3] q0) :: (fd, o8) :: (cl, LO vs n) :: (L' + 1, oX) :: (pl, LO pv pn) :: (kn, okn) :: Z) := fun _ =>
    BA.Off.above (BA.Off.above (ZO.add he0 (za_off O OX hwL ZO)) O hbp) O S.vw
  have hl1 : ts.length ≤ 900 := by omega
  have hl2 : sw.length ≤ 900 := by omega
  obtain ⟨kd, hk⟩ := czz_ex (wx := wx) (low := low)
  clear N9 hWfd hWpl hWkn hWwd hWpa
  exact step_mid (kd := kd) (d := wx + low) (t0 := t) (tt0 := tt) (al := [t]) (dk := .i low) (unhid ho') B1 F9 X1 T1 hdp hun NF hoX O OX lo (by with_unfolding_all exact m1) (by with_unfolding_all exact m2) (by with_unfolding_all first | rfl | exact m3) (by with_unfolding_all exact m5) (by with_unfolding_all exact m6) hpaL zL1 hwL D8 (by omega) (by omega) hlap WX (case_z hk W8.1 he0 W0 EB)
    (fun hV F N ret => due_z B1 F X1 T1 rfl rfl (dle hdp rfl) (ule hun rfl) (nc N (nc N N (hV _ (.tail _ he0))) (hV _ (.head _)))
      (fun hb h' tk' t F N => qeq (due_bad (czz_bad hk hb)) (ret h' tk' t F fun p hp => N p (in2 p hp)))
      (fun a1 a2 a3 h' tk' t F N => qeq (due_zo hk a1 a2 a3) (ret h' tk' t F fun p hp => N p (in2 p hp)))
      (fun a1 a2 a3 h' tk' t F N => qeq (due_lim (czz_lim hk a1 (by omega) a3)) (ret h' tk' t F fun p hp => N p (in2 p hp))))
    (fun F DW N ret => asked_z B1 F X1 T1 XB TB D KtsTurn.refl rfl rfl (dle hdp rfl) (ule hun rfl) DW (news_sub N (bank_in (bank_sub sub_nil) (sub_cons (bank_tl _ mem0) (sub_cons (bank_tl _ mem1) (sub_cons (bank_tl _ (in7 _ he0)) fun p hp => bank_tl p (in2 p hp)))))) (I.mono fun p hp => in5 p hp) O (ZA _) W0 hl1 hl2
      (fun a1 a2 h' tk' h₁ KT F B X T D N => ret _ h' tk' h₁ b _ ts sw KT F B X T D N ⟨I.mono fun p hp => in8 p hp, sub_cons mem0 (sub_cons mem1 fun p hp => in3 p hp), ZA _, List.prefix_refl _, ask_zero (czz_zero hk a1 a2)⟩)
      (fun a1 a2 a3 h' tk' h₁ b' Z' ts' sw' r tr KT F B X T D N I' zs ZO' pre len M => ret _ h' tk' h₁ b' Z' ts' sw' KT F B X T D N ⟨I', sub_cons (zs _ mem0) (sub_cons (zs _ mem1) fun p hp => zs p (in3 p hp)), ZO', pre, ask_ok (czz_ok hk a1 a2 a3) M len⟩)
      (fun hb h' tk' h₁ tx KT F B X T D N => ret _ h' tk' h₁ b _ ts sw KT F B X T D N ⟨I.mono fun p hp => in8 p hp, sub_cons mem0 (sub_cons mem1 fun p hp => in3 p hp), ZA _, List.prefix_refl _, ask_bad (czz_bad hk hb)⟩)
      (fun a1 a2 a3 h' tk' h₁ tx KT F B X T D N => ret _ h' tk' h₁ b _ ts sw KT F B X T D N ⟨I.mono fun p hp => in8 p hp, sub_cons mem0 (sub_cons mem1 fun p hp => in3 p hp), ZA _, List.prefix_refl _, ask_lim (czz_lim hk a1 a2 a3)⟩)) ret
end
end
section
open PySem PySem.W PySem.Calls PyProof.Rows
local macro_rules | `(tactic| walk_at "pad0") => `(tactic| skip)
set_option hygiene false in
local macro_rules | `(tactic| walk_at "ite") => `(tactic| (k_closed; with_reducible refine ite_neg (by k_dflt decide) ?_))
set_option hygiene false in
local macro_rules | `(tactic| walk_at "execs cons") => `(tactic| with_reducible refine st_asgT ?_)
section
variable {w : World} {mean : ExcName → Option Value} {mg mb : Str → Option Value} {dp un : Nat} {gd : Option (List Code)} {env : Env} {outer : List Env} {A₀ : Around} {base h₀ g₀ : Heap} {L : Addr} {m : Str → Option Value} {s : Shared} {Q E : Value → Shared → Prop}
    {c : BA} {b : BSt} {Z : List (Addr × Obj)} {ts : List Tm} {sw : List Int} {fd cl pl kn wd pa e0 : Nat} {ofd ofd0 okn ow oX : Obj} {vs pv : List Value} {ns : List Int} {n pn lap q0 : Nat} {ks : List (List EK × Addr × Value)} {bl great t wx k : Int} {to tg tt tw tk0 tb tz : Tok} {x2 x3 : Value}
    {fa : Addr} {cdx : Value} {name qual : Str} {params : Arguments} {body : List Stmt} {scope : Scope} {dV kV doc pm cdv ct oc9 : Value} {an od : Option Addr} {osl : Array (Option Value)} {qk : Flow → Shared → Prop} {L' : Addr}
theorem case_s {kd : Kd} (hk : czz wx t0 kd) (h0 : 0 ≤ wx) (he0 : (e0, LO [.int t tt, .int wx tw, x2, x3] q0) ∈ Z) (W0 : wof ts sw t wx) (EB : EntBits Z wx x2 x3) : caseOk kd Z ts sw (Str.ofString "sign_extend") [.ref e0] [t] (.i t0) (.int t0 tz) (wx + t0) t tt := by
  cases kd with
  | bad => trivial
  | lim => trivial
  | zero => exact ⟨.inr rfl, tz, e0, _, _, _, q0, by rw [hk.2], rfl, he0⟩
  | ok => exact ⟨.sign he0 W0 EB (Int.le_of_lt hk.2.1), ⟨by have := hk.2.1; omega, hk.2.2⟩, fun _ many tz h => by injection h with h _; exact h ▸ (Int.ne_of_gt hk.2.1)⟩
set_option maxHeartbeats 20000000 in
theorem step_s (ho : (heap w.params).lookup 736 = some ⟨oc9, od, .func (fnOf name qual params body scope dV kV doc pm an cdv ct), osl⟩) (B1 : Below ({ handled := none, depth := dp, frames := some outer, guards := gd, units := un } : Around) base outer h₀) (F1 : Fr h₀ L' s.heap m) (X1 : (heap w.params).In h₀) (T1 : Top view (looseW view []) mean mg mb h₀) (hdp : dp ≤ 420) (hun : un ≤ 410)
    (XB : (heap w.params).In base) (TB : Top view (looseW view []) mean mg mb base) (D : KtsDicts (outer.filterMap (·.frame)) h₀)
    (N1 : News h₀ L' s.heap ((pa, LO [.ref e0] 0) :: (L' + 1, oX) :: stepLed w.params c b fd cl pl kn wd ofd okn ow vs pv n pn Z)) (hoX : oX.data = .cell none) (O : c.Ord) (OX : fd < cl ∧ cl < c.bd ∧ c.bv < pl ∧ pl < wd ∧ wd < kn) (lo : (kn == sysModules) = false)
    (m2 : m (Str.ofString "parts") = some (.ref pa)) (m3 : m (Str.ofString "data") = some (.int 0 tz)) (m5 : m (Str.ofString "world") = some (.ref wd)) (m6 : m (Str.ofString "pool") = some (.ref pl)) (m7 : m (Str.ofString "feed") = some (.ref fd)) (m8 : m (Str.ofString "great") = some (.int great tg))
    (he0 : (e0, LO [.int t tt, .int wx tw, x2, x3] q0) ∈ Z) (W0 : wof ts sw t wx) (EB : EntBits Z wx x2 x3) (hpaL : @LT.lt Nat _ (L' + 1) pa) (zL : ∀ p ∈ Z, @LT.lt Nat _ p.1 L') (hwL : @LT.lt Nat _ kn L')
    (D6 : ofd.IsDictOf (PySem.strKind PySem.Challenge.rw_nz0152_01.row.prog w) (feedKvs cl k bl tk0 tb)) (hk0 : 0 ≤ k) (hk1 : k ≤ 10 + 10 * lap + 3) (hI : IntsAre vs ns) (hns : ns.length ≤ 40) (hb0 : 0 ≤ bl) (hb1 : bl ≤ 10000) (hlap : lap ≤ 50) (WX : WF w c fd cl pl kn wd bl lap b Z ts sw ofd0 okn ow pv ks)
    (ret : ∀ h₁ h' tk' m' b' Z' ts' sw' ofd' okn' ow' pv' pn' ks', KtsTurn (outer.filterMap (·.frame)) h₀ h₁ → Fr h₁ L' h' m' → Below ({ handled := none, depth := dp, frames := some outer, guards := gd, units := un } : Around) base outer h₁ → (heap w.params).In h₁ → Top view (looseW view []) mean mg mb h₁ → KtsDicts (outer.filterMap (·.frame)) h₁ →
      News h₁ L' h' (stepLed w.params c b' fd cl pl kn wd ofd' okn' ow' vs pv' n pn' Z') → WF w c fd cl pl kn wd bl (lap + 1) b' Z' ts' sw' ofd' okn' ow' pv' ks' → (∀ p ∈ Z, p ∈ Z') → qk (.ret (.bool true)) { s with heap := h', toks := tk' })
    (m1 : m (Str.ofString "op") = some (.str (Str.ofString "sign_extend") to)) :
    wpAny (model PySem.Challenge.rw_nz0152_01.row.prog w) (({ handled := none, depth := dp, frames := some outer, guards := gd, units := un } : Around).deeper (envOfC qual scope L' 736 cdv)) (execs (body.drop 2) (envOfC qual scope L' 736 cdv)) qk E s := by
  k_dflt (apply body_at ho)
  case h' => k_is
  intro ho'
  clear ho
  have ZO := WX.ZO
  have zfd := WX.zfd
  have zpl := WX.zpl
  have zkn := WX.zkn
  have zwd := WX.zwd
  have I := WX.I
  have hP := WX.hP
  have hsm := WX.hsm
  have hpl := WX.sz.1
  have hlt := WX.sz.2.1
  have hls := WX.sz.2.2.1
  have hk513 := kk1 hk1 hlap
  have S := oxs O OX
  have k1 : @LT.lt Nat _ kn (L' + 1) := Nat.lt_succ_of_lt hwL
  have k2 : @LT.lt Nat _ kn pa := Nat.lt_trans k1 hpaL
  obtain ⟨v1, v2, v3, v4, v5, v6⟩ := ox5 S k1
  obtain ⟨u1, u2, u3, u4, u5, u6⟩ := ox5 S k2
  have n1 := S.fw; have n2 := S.cw; have n3 := S.fk
  have hbp : c.bv < pa := Nat.lt_trans S.vk (Nat.lt_trans (Nat.lt_succ_of_lt hwL) hpaL)
  obtain ⟨nt1, nt2, nt3, nt4, nt5⟩ := id I.nt
  have W8 := wof_nonneg I W0
  have hWfd : ∀ p ∈ bankLed w.params c b Z, p.1 ≠ fd := led_off O (.inl S.fb) zfd
  have hWpl : ∀ p ∈ bankLed w.params c b Z, p.1 ≠ pl := led_off O (.inr S.vp) zpl
  have hWkn : ∀ p ∈ bankLed w.params c b Z, p.1 ≠ kn := led_off O (.inr S.vk) zkn
  have hWwd : ∀ p ∈ bankLed w.params c b Z, p.1 ≠ wd := led_off O (.inr S.vw) zwd
  have hWpa : ∀ p ∈ bankLed w.params c b Z, p.1 ≠ pa := led_off O (.inr hbp) fun p hp => Nat.ne_of_lt (Nat.lt_trans (zL p hp) (Nat.lt_trans (Nat.lt_succ_self _) hpaL))
  have n4 : @Ne Nat c.to wd := hWwd (c.to, LO b.vo b.co) mem4
  have n5 : @Ne Nat c.bk wd := hWwd (c.bk, instObj 677 c.bd) mem0
  have n6 : @Ne Nat c.bd wd := hWwd (c.bd, bankDict w.params c) mem1
  have n7 : @Ne Nat c.to fd := hWfd (c.to, LO b.vo b.co) mem4
  have n8 : @Ne Nat c.bk fd := hWfd (c.bk, instObj 677 c.bd) mem0
  have n9 : @Ne Nat c.bd fd := hWfd (c.bd, bankDict w.params c) mem1
  have n10 : @Ne Nat c.to pa := hWpa (c.to, LO b.vo b.co) mem4
  have n11 : @Ne Nat c.bk pa := hWpa (c.bk, instObj 677 c.bd) mem0
  have n12 : @Ne Nat c.bd pa := hWpa (c.bd, bankDict w.params c) mem1
  have ne1 : e0 ≠ fd := zfd _ he0
  have ne2 : e0 ≠ pl := zpl _ he0
  have ne3 : e0 ≠ kn := zkn _ he0
  have ne4 : e0 ≠ wd := zwd _ he0
  have ne6 : @LT.lt Nat _ e0 L' := zL _ he0
  have hfc : fd ≠ cl := Nat.ne_of_lt S.fc
  have hfp : fd ≠ pl := Nat.ne_of_lt S.fp
  have N2 : News h₀ L' s.heap ((pa, LO [.ref e0] 0) :: (e0, LO [.int t tt, .int wx tw, x2, x3] q0) :: (c.bk, instObj 677 c.bd) :: (c.bd, bankDict w.params c) :: (c.to, LO b.vo b.co) :: (L' + 1, oX) :: (fd, ofd) :: (cl, LO vs n) :: (pl, LO pv pn) :: (kn, okn) :: (wd, ow) :: bankLed w.params c b Z) := nc N1 (nc N1 (nc N1 (nc N1 (nc N1 (fun p hp => N1 p (.tail _ hp)) (by k_mem)) (by k_mem)) (by k_mem)) (.tail _ (.tail _ (.tail _ (.tail _ (.tail _ (.tail _ (.tail _ (bankLed_tail _ he0))))))))) (by k_mem)
  clear N1
  have X1 := X1
  have T1 := T1
  obtain ⟨W, hW⟩ : ∃ W, bankLed w.params c b Z = W := ⟨_, rfl⟩
  rw [hW] at N2 hWfd hWpl hWkn hWwd hWpa
  simp only [List.drop]
  try k_fold
  k_steps
  all_goals (try delta Stop)
  rename Fr h₀ L' _ _ => F9
  rename News h₀ L' _ _ => N9
  obtain ⟨vs9, hv9, NL⟩ : ∃ vs9, (∀ i < 9, ∃ many tm, vs9[i]? = some (.int many tm)) ∧ News h₀ L' _ [(Lk, LO vs9 0)] := ⟨_, nine, news_sub N9 (by k_all)⟩
  refine draw (many := 9) (Y := (Lk, LO vs9 0) :: (pa, LO [.ref e0] 0) :: (e0, LO [.int t tt, .int wx tw, x2, x3] q0) :: (c.bk, instObj 677 c.bd) :: (c.bd, bankDict w.params c) :: (c.to, LO b.vo b.co) :: (L' + 1, oX) :: (pl, LO pv pn) :: (kn, okn) :: (wd, ow) :: W) B1 F9 X1 T1 rfl rfl (dle hdp rfl) (ule hun rfl) (news_sub (nc NL N9 (.head _)) (by k_all)) hfc (by k_all) D6 hI hk0 (by omega) hb0 hb1 (by omega) hns fun r tr h8 tk8 o8 t8 F8 N8 D8 r0 r1 => ?_
  clear F9 N9 NL
  obtain ⟨low, tlo, hget⟩ := hv9 r.toNat (tlt (n := 9) (by assumption) (by assumption))
  dsimp only
  k_steps
  all_goals (try delta Stop)
  rename Fr h₀ L' _ _ => F9
  rename News h₀ L' _ _ => N9
  subst hW
  have NF := news_sub (news' := (pa, LO [.ref e0] 0) :: (L' + 1, oX) :: stepLed w.params c b fd cl pl kn wd o8 okn ow vs pv n pn Z) N9 (by k_all)
  have zL1 : ∀ p ∈ Z, p.1 ≠ (L' + 1 : Nat) := fun p hp => Nat.ne_of_lt (Nat.lt_succ_of_lt (zL p hp))
  have ZA : ∀ o4, c.Off ((wd, o4) :: (pa, LO [.ref e0] 0) :: (e0, LO [.int t tt, .int wx tw, x2, x3] q0) :: (fd, o8) :: (cl, LO vs n) :: (L' + 1, oX) :: (pl, LO pv pn) :: (kn, okn) :: Z) := fun _ =>
    BA.Off.above (BA.Off.above (ZO.add he0 (za_off O OX hwL ZO)) O hbp) O S.vw
  have hl1 : ts.length ≤ 900 := by omega
  have hl2 : sw.length ≤ 900 := by omega
  obtain ⟨kd, hk⟩ := czz_ex (wx := wx) (low := low)
  clear N9 hWfd hWpl hWkn hWwd hWpa
  exact step_mid (kd := kd) (d := wx + low) (t0 := t) (tt0 := tt) (al := [t]) (dk := .i low) (unhid ho') B1 F9 X1 T1 hdp hun NF hoX O OX lo (by with_unfolding_all exact m1) (by with_unfolding_all exact m2) (by with_unfolding_all first | rfl | exact m3) (by with_unfolding_all exact m5) (by with_unfolding_all exact m6) hpaL zL1 hwL D8 (by omega) (by omega) hlap WX (case_s hk W8.1 he0 W0 EB)
    (fun hV F N ret => due_s B1 F X1 T1 rfl rfl (dle hdp rfl) (ule hun rfl) (nc N (nc N N (hV _ (.tail _ he0))) (hV _ (.head _)))
      (fun hb h' tk' t F N => qeq (due_bad (czz_bad hk hb)) (ret h' tk' t F fun p hp => N p (in2 p hp)))
      (fun a1 a2 a3 h' tk' t F N => qeq (due_zo hk a1 a2 a3) (ret h' tk' t F fun p hp => N p (in2 p hp)))
      (fun a1 a2 a3 h' tk' t F N => qeq (due_lim (czz_lim hk a1 (by omega) a3)) (ret h' tk' t F fun p hp => N p (in2 p hp))))
    (fun F DW N ret => asked_s B1 F X1 T1 XB TB D KtsTurn.refl rfl rfl (dle hdp rfl) (ule hun rfl) DW (news_sub N (bank_in (bank_sub sub_nil) (sub_cons (bank_tl _ mem0) (sub_cons (bank_tl _ mem1) (sub_cons (bank_tl _ (in7 _ he0)) fun p hp => bank_tl p (in2 p hp)))))) (I.mono fun p hp => in5 p hp) O (ZA _) W0 hl1 hl2
      (fun a1 a2 h' tk' h₁ KT F B X T D N => ret _ h' tk' h₁ b _ ts sw KT F B X T D N ⟨I.mono fun p hp => in8 p hp, sub_cons mem0 (sub_cons mem1 fun p hp => in3 p hp), ZA _, List.prefix_refl _, ask_zero (czz_zero hk a1 a2)⟩)
      (fun a1 a2 a3 h' tk' h₁ b' Z' ts' sw' r tr KT F B X T D N I' zs ZO' pre len M => ret _ h' tk' h₁ b' Z' ts' sw' KT F B X T D N ⟨I', sub_cons (zs _ mem0) (sub_cons (zs _ mem1) fun p hp => zs p (in3 p hp)), ZO', pre, ask_ok (czz_ok hk a1 a2 a3) M len⟩)
      (fun hb h' tk' h₁ tx KT F B X T D N => ret _ h' tk' h₁ b _ ts sw KT F B X T D N ⟨I.mono fun p hp => in8 p hp, sub_cons mem0 (sub_cons mem1 fun p hp => in3 p hp), ZA _, List.prefix_refl _, ask_bad (czz_bad hk hb)⟩)
      (fun a1 a2 a3 h' tk' h₁ tx KT F B X T D N => ret _ h' tk' h₁ b _ ts sw KT F B X T D N ⟨I.mono fun p hp => in8 p hp, sub_cons mem0 (sub_cons mem1 fun p hp => in3 p hp), ZA _, List.prefix_refl _, ask_lim (czz_lim hk a1 a2 a3)⟩)) ret
end
end
section
open PySem PySem.W PySem.Calls PyProof.Rows
set_option hygiene false in
local macro_rules | `(tactic| walk_at "execs cons") => `(tactic| with_reducible refine st_asgT ?_)
theorem case_c {Z : List (Addr × Obj)} {ts : List Tm} {sw : List Int} {kd : Kd} {wx wx2 t t2 : Int} {tt tw tt2 tw2 tz : Tok} {x2 x3 y2 y3 : Value} {q0 q1 : Nat} {e0 e1 : Addr} (hk : czc wx wx2 kd) (h0 : 0 ≤ wx) (h1 : 0 ≤ wx2) (he0 : (e0, LO [.int t tt, .int wx tw, x2, x3] q0) ∈ Z) (W0 : wof ts sw t wx) (EB : EntBits Z wx x2 x3)
    (he1 : (e1, LO [.int t2 tt2, .int wx2 tw2, y2, y3] q1) ∈ Z) (W1 : wof ts sw t2 wx2) (EB1 : EntBits Z wx2 y2 y3) : caseOk kd Z ts sw (Str.ofString "concat") [.ref e0, .ref e1] [t, t2] (.i 0) (.int 0 tz) (wx + wx2) t tt := by
  cases kd with
  | bad => trivial
  | lim => trivial
  | zero => exact hk.elim
  | ok => obtain ⟨a1, a2, a3⟩ := hk; exact ⟨.conc he0 W0 EB he1 W1 EB1, ⟨by omega, a3⟩, fun h => absurd h (by decide)⟩
section
variable {w : World} {mean : ExcName → Option Value} {mg mb : Str → Option Value} {dp un : Nat} {gd : Option (List Code)} {env : Env} {outer : List Env} {A₀ : Around} {base h₀ g₀ : Heap} {L : Addr} {m : Str → Option Value} {s : Shared} {Q E : Value → Shared → Prop}
    {c : BA} {b : BSt} {Z : List (Addr × Obj)} {ts : List Tm} {sw : List Int} {fd cl pl kn wd pa e0 : Nat} {ofd ofd0 okn ow oX : Obj} {vs pv : List Value} {ns : List Int} {n pn lap q0 : Nat} {ks : List (List EK × Addr × Value)} {bl great t wx k : Int} {to tg tt tw tk0 tb tz : Tok} {x2 x3 : Value}
    {fa : Addr} {cdx : Value} {name qual : Str} {params : Arguments} {body : List Stmt} {scope : Scope} {dV kV doc pm cdv ct oc9 : Value} {an od : Option Addr} {osl : Array (Option Value)} {qk : Flow → Shared → Prop} {L' : Addr}
set_option maxHeartbeats 20000000 in
theorem step_conc (ho : (heap w.params).lookup 736 = some ⟨oc9, od, .func (fnOf name qual params body scope dV kV doc pm an cdv ct), osl⟩) (B1 : Below ({ handled := none, depth := dp, frames := some outer, guards := gd, units := un } : Around) base outer h₀) (F1 : Fr h₀ L' s.heap m) (X1 : (heap w.params).In h₀) (T1 : Top view (looseW view []) mean mg mb h₀) (hdp : dp ≤ 420) (hun : un ≤ 410)
    (XB : (heap w.params).In base) (TB : Top view (looseW view []) mean mg mb base) (D : KtsDicts (outer.filterMap (·.frame)) h₀)
    (N1 : News h₀ L' s.heap ((pa, LO [.ref e0] 0) :: (L' + 1, oX) :: stepLed w.params c b fd cl pl kn wd ofd okn ow vs pv n pn Z)) (hoX : oX.data = .cell none) (O : c.Ord) (OX : fd < cl ∧ cl < c.bd ∧ c.bv < pl ∧ pl < wd ∧ wd < kn) (lo : (kn == sysModules) = false)
    (m2 : m (Str.ofString "parts") = some (.ref pa)) (m3 : m (Str.ofString "data") = some (.int 0 tz)) (m5 : m (Str.ofString "world") = some (.ref wd)) (m6 : m (Str.ofString "pool") = some (.ref pl)) (m7 : m (Str.ofString "feed") = some (.ref fd)) (m8 : m (Str.ofString "great") = some (.int great tg))
    (he0 : (e0, LO [.int t tt, .int wx tw, x2, x3] q0) ∈ Z) (W0 : wof ts sw t wx) (EB : EntBits Z wx x2 x3) (hpaL : @LT.lt Nat _ (L' + 1) pa) (zL : ∀ p ∈ Z, @LT.lt Nat _ p.1 L') (hwL : @LT.lt Nat _ kn L')
    (D6 : ofd.IsDictOf (PySem.strKind PySem.Challenge.rw_nz0152_01.row.prog w) (feedKvs cl k bl tk0 tb)) (hk0 : 0 ≤ k) (hk1 : k ≤ 10 + 10 * lap + 3) (hI : IntsAre vs ns) (hns : ns.length ≤ 40) (hb0 : 0 ≤ bl) (hb1 : bl ≤ 10000) (hlap : lap ≤ 50) (WX : WF w c fd cl pl kn wd bl lap b Z ts sw ofd0 okn ow pv ks)
    (ret : ∀ h₁ h' tk' m' b' Z' ts' sw' ofd' okn' ow' pv' pn' ks', KtsTurn (outer.filterMap (·.frame)) h₀ h₁ → Fr h₁ L' h' m' → Below ({ handled := none, depth := dp, frames := some outer, guards := gd, units := un } : Around) base outer h₁ → (heap w.params).In h₁ → Top view (looseW view []) mean mg mb h₁ → KtsDicts (outer.filterMap (·.frame)) h₁ →
      News h₁ L' h' (stepLed w.params c b' fd cl pl kn wd ofd' okn' ow' vs pv' n pn' Z') → WF w c fd cl pl kn wd bl (lap + 1) b' Z' ts' sw' ofd' okn' ow' pv' ks' → (∀ p ∈ Z, p ∈ Z') → qk (.ret (.bool true)) { s with heap := h', toks := tk' })
    (m1 : m (Str.ofString "op") = some (.str (Str.ofString "concat") to)) :
    wpAny (model PySem.Challenge.rw_nz0152_01.row.prog w) (({ handled := none, depth := dp, frames := some outer, guards := gd, units := un } : Around).deeper (envOfC qual scope L' 736 cdv)) (execs (body.drop 2) (envOfC qual scope L' 736 cdv)) qk E s := by
  k_dflt (apply body_at ho)
  case h' => k_is
  intro ho'
  clear ho
  have ZO := WX.ZO
  have zfd := WX.zfd
  have zpl := WX.zpl
  have zkn := WX.zkn
  have zwd := WX.zwd
  have I := WX.I
  have hP := WX.hP
  have hsm := WX.hsm
  have hpl := WX.sz.1
  have hlt := WX.sz.2.1
  have hls := WX.sz.2.2.1
  have hk513 := kk1 hk1 hlap
  have S := oxs O OX
  have k1 : @LT.lt Nat _ kn (L' + 1) := Nat.lt_succ_of_lt hwL
  have k2 : @LT.lt Nat _ kn pa := Nat.lt_trans k1 hpaL
  obtain ⟨v1, v2, v3, v4, v5, v6⟩ := ox5 S k1
  obtain ⟨u1, u2, u3, u4, u5, u6⟩ := ox5 S k2
  have n1 := S.fw; have n2 := S.cw; have n3 := S.fk
  have hbp : c.bv < pa := Nat.lt_trans S.vk (Nat.lt_trans (Nat.lt_succ_of_lt hwL) hpaL)
  obtain ⟨nt1, nt2, nt3, nt4, nt5⟩ := id I.nt
  have W8 := wof_nonneg I W0
  have hWfd : ∀ p ∈ bankLed w.params c b Z, p.1 ≠ fd := led_off O (.inl S.fb) zfd
  have hWpl : ∀ p ∈ bankLed w.params c b Z, p.1 ≠ pl := led_off O (.inr S.vp) zpl
  have hWkn : ∀ p ∈ bankLed w.params c b Z, p.1 ≠ kn := led_off O (.inr S.vk) zkn
  have hWwd : ∀ p ∈ bankLed w.params c b Z, p.1 ≠ wd := led_off O (.inr S.vw) zwd
  have hWpa : ∀ p ∈ bankLed w.params c b Z, p.1 ≠ pa := led_off O (.inr hbp) fun p hp => Nat.ne_of_lt (Nat.lt_trans (zL p hp) (Nat.lt_trans (Nat.lt_succ_self _) hpaL))
  have n4 : @Ne Nat c.to wd := hWwd (c.to, LO b.vo b.co) mem4
  have n5 : @Ne Nat c.bk wd := hWwd (c.bk, instObj 677 c.bd) mem0
  have n6 : @Ne Nat c.bd wd := hWwd (c.bd, bankDict w.params c) mem1
  have n7 : @Ne Nat c.to fd := hWfd (c.to, LO b.vo b.co) mem4
  have n8 : @Ne Nat c.bk fd := hWfd (c.bk, instObj 677 c.bd) mem0
  have n9 : @Ne Nat c.bd fd := hWfd (c.bd, bankDict w.params c) mem1
  have n10 : @Ne Nat c.to pa := hWpa (c.to, LO b.vo b.co) mem4
  have n11 : @Ne Nat c.bk pa := hWpa (c.bk, instObj 677 c.bd) mem0
  have n12 : @Ne Nat c.bd pa := hWpa (c.bd, bankDict w.params c) mem1
  have ne1 : e0 ≠ fd := zfd _ he0
  have ne2 : e0 ≠ pl := zpl _ he0
  have ne3 : e0 ≠ kn := zkn _ he0
  have ne4 : e0 ≠ wd := zwd _ he0
  have ne6 : @LT.lt Nat _ e0 L' := zL _ he0
  have hfc : fd ≠ cl := Nat.ne_of_lt S.fc
  have hfp : fd ≠ pl := Nat.ne_of_lt S.fp
  have N2 : News h₀ L' s.heap ((pa, LO [.ref e0] 0) :: (e0, LO [.int t tt, .int wx tw, x2, x3] q0) :: (c.bk, instObj 677 c.bd) :: (c.bd, bankDict w.params c) :: (c.to, LO b.vo b.co) :: (L' + 1, oX) :: (fd, ofd) :: (cl, LO vs n) :: (pl, LO pv pn) :: (kn, okn) :: (wd, ow) :: bankLed w.params c b Z) := nc N1 (nc N1 (nc N1 (nc N1 (nc N1 (fun p hp => N1 p (.tail _ hp)) (by k_mem)) (by k_mem)) (by k_mem)) (.tail _ (.tail _ (.tail _ (.tail _ (.tail _ (.tail _ (.tail _ (bankLed_tail _ he0))))))))) (by k_mem)
  clear N1
  have X1 := X1
  have T1 := T1
  obtain ⟨W, hW⟩ : ∃ W, bankLed w.params c b Z = W := ⟨_, rfl⟩
  rw [hW] at N2 hWfd hWpl hWkn hWwd hWpa
  simp only [List.drop]
  try k_fold
  have hZW : ∀ p ∈ Z, p ∈ W := by rw [← hW]; exact bankLed_tail
  k_steps
  all_goals (try delta Stop)
  rename Fr h₀ L' _ _ => F9
  rename News h₀ L' _ _ => N9
  refine' some_ (Y := (pa, LO [.ref e0] 0) :: (e0, LO [.int t tt, .int wx tw, x2, x3] q0) :: (c.bk, instObj 677 c.bd) :: (c.bd, bankDict w.params c) :: (c.to, LO b.vo b.co) :: (L' + 1, oX) :: (kn, okn) :: (wd, ow) :: W) B1 ?a0 X1 T1 ?a1 ?a2 ?a3 ?a4 ?a5 hfc hfp ?a6 D6 hI hk0 ?a7 hb0 hb1 hns (pool_of hP fun p hp => .tail _ (.tail _ (.tail _ (.tail _ (.tail _ (.tail _ (.tail _ (.tail _ (hZW p hp))))))))) ?a8 (hsm.mono fun p hp => .tail _ (.tail _ (.tail _ (.tail _ (.tail _ (.tail _ (.tail _ (.tail _ (hZW p hp))))))))) fun v h8 tk8 o8 t8 k8 F8 N8 D8 k80 k81 hv => ?_
  case a0 => exact F9
  case a1 => rfl
  case a2 => rfl
  case a3 => exact dle hdp rfl
  case a4 => exact ule hun rfl
  case a5 => exact (news_sub N9 (by k_all))
  case a6 => k_all
  case a7 => omega
  case a8 => omega
  clear F9 N9
  obtain ⟨e1, t1, tt1, wx1, tw1, y2', y3', q1, rfl, he1, W1, EB1⟩ := hP v hv
  have W81 := wof_nonneg I W1
  have ne11 : e1 ≠ fd := zfd _ he1
  have ne12 : e1 ≠ pl := zpl _ he1
  have ne13 : e1 ≠ kn := zkn _ he1
  have ne14 : e1 ≠ wd := zwd _ he1
  have ne16 : @LT.lt Nat _ e1 L' := zL _ he1
  have N9 : News h₀ L' h8 ((e1, LO [.int t1 tt1, .int wx1 tw1, y2', y3'] q1) :: (fd, o8) :: (cl, LO vs n) :: (pl, LO pv pn) :: (pa, LO [.ref e0] 0) :: (e0, LO [.int t tt, .int wx tw, x2, x3] q0) :: (c.bk, instObj 677 c.bd) :: (c.bd, bankDict w.params c) :: (c.to, LO b.vo b.co) :: (L' + 1, oX) :: (kn, okn) :: (wd, ow) :: W) := nc N8 N8 (.tail _ (.tail _ (.tail _ (.tail _ (.tail _ (.tail _ (.tail _ (.tail _ (.tail _ (.tail _ (.tail _ (hZW _ he1))))))))))))
  clear N8
  dsimp only
  k_steps
  all_goals (try delta Stop)
  rename Fr h₀ L' _ _ => F9
  rename News h₀ L' _ _ => N9
  subst hW
  have NF := news_sub (news' := (pa, LO [.ref e0, .ref e1] (0 + 1)) :: (L' + 1, oX) :: stepLed w.params c b fd cl pl kn wd o8 okn ow vs pv n pn Z) N9 (by k_all)
  have zL1 : ∀ p ∈ Z, p.1 ≠ (L' + 1 : Nat) := fun p hp => Nat.ne_of_lt (Nat.lt_succ_of_lt (zL p hp))
  have ZA : ∀ o4, c.Off ((wd, o4) :: (pa, LO [.ref e0, .ref e1] (0 + 1)) :: (e0, LO [.int t tt, .int wx tw, x2, x3] q0) :: (e1, LO [.int t1 tt1, .int wx1 tw1, y2', y3'] q1) :: (fd, o8) :: (cl, LO vs n) :: (L' + 1, oX) :: (pl, LO pv pn) :: (kn, okn) :: Z) := fun _ =>
    BA.Off.above (BA.Off.above (ZO.add he0 (ZO.add he1 (za_off O OX hwL ZO))) O hbp) O S.vw
  have hl1 : ts.length ≤ 900 := by omega
  have hl2 : sw.length ≤ 900 := by omega
  have hk9 := kk3 hk1 k81
  obtain ⟨kd, hk⟩ := czc_ex (wx := wx) (wx2 := wx1)
  clear N9 hWfd hWpl hWkn hWwd hWpa hZW
  exact step_mid (kd := kd) (d := wx + wx1) (t0 := t) (tt0 := tt) (al := [t, t1]) (dk := .i 0) (unhid ho') B1 F9 X1 T1 hdp hun NF hoX O OX lo (by with_unfolding_all exact m1) (by with_unfolding_all exact m2) (by with_unfolding_all first | rfl | exact m3) (by with_unfolding_all exact m5) (by with_unfolding_all exact m6) hpaL zL1 hwL D8 (by omega) (by omega) hlap WX (case_c hk W8.1 W81.1 he0 W0 EB he1 W1 EB1)
    (fun hV F N ret => due_conc B1 F X1 T1 rfl rfl (dle hdp rfl) (ule hun rfl) (nc N (nc N (nc N N (hV _ (.tail _ he1))) (hV _ (.tail _ he0))) (hV _ mem0))
      (fun hb h' tk' t F N => qeq (due_bad (czc_bad hk hb)) (ret h' tk' t F fun p hp => N p (in3 p hp)))
      (fun a1 a2 a3 h' tk' t F N => qeq (due_ok (czc_ok hk a1 a2 a3)) (ret h' tk' t F fun p hp => N p (in3 p hp)))
      (fun a1 a2 a3 h' tk' t F N => qeq (due_lim (czc_lim hk a1 a2 a3)) (ret h' tk' t F fun p hp => N p (in3 p hp))))
    (fun F DW N ret => asked_conc B1 F X1 T1 XB TB D KtsTurn.refl rfl rfl (dle hdp rfl) (ule hun rfl) DW (news_sub N (bank_in (bank_sub sub_nil) (sub_cons (bank_tl _ mem0) (sub_cons (bank_tl _ mem1) (sub_cons (bank_tl _ (in7 _ he0)) (sub_cons (bank_tl _ (in7 _ he1)) fun p hp => bank_tl p (in2 p hp))))))) (I.mono fun p hp => in5 p hp) O (ZA _) W0 W1 hl1 hl2
      (fun a1 a2 a3 h' tk' h₁ b' Z' ts' sw' r tr KT F B X T D N I' zs ZO' pre len M => ret _ h' tk' h₁ b' Z' ts' sw' KT F B X T D N ⟨I', sub_cons (zs _ mem0) (sub_cons (zs _ mem1) fun p hp => zs p (in4 p hp)), ZO', pre, ask_ok (czc_ok hk a1 a2 a3) M len⟩)
      (fun hb h' tk' h₁ tx KT F B X T D N => ret _ h' tk' h₁ b _ ts sw KT F B X T D N ⟨I.mono fun p hp => in9 p hp, sub_cons mem0 (sub_cons mem1 fun p hp => in4 p hp), ZA _, List.prefix_refl _, ask_bad (czc_bad hk hb)⟩)
      (fun a1 a2 a3 h' tk' h₁ tx KT F B X T D N => ret _ h' tk' h₁ b _ ts sw KT F B X T D N ⟨I.mono fun p hp => in9 p hp, sub_cons mem0 (sub_cons mem1 fun p hp => in4 p hp), ZA _, List.prefix_refl _, ask_lim (czc_lim hk a1 a2 a3)⟩)) ret
end
end
section
open PySem PySem.W PySem.Calls PyProof.Rows
local macro_rules | `(tactic| walk_at "pad0") => `(tactic| skip)
set_option hygiene false in
local macro_rules | `(tactic| walk_at "execs cons") => `(tactic| with_reducible refine st_ifEq ?_)
theorem wf_world {w : World} {c : BA} {fd cl pl kn wd : Nat} {bl : Int} {lap : Nat} {b : BSt} {Z : List (Addr × Obj)} {ts : List Tm} {sw : List Int} {ofd okn ow : Obj} {pv : List Value} {ks : List (List EK × Addr × Value)} {G : Prop} (x : WF w c fd cl pl kn wd bl lap b Z ts sw ofd okn ow pv ks)
    (g : ∀ bf hv tbf, ow.IsDictOf (PySem.strKind PySem.Challenge.rw_nz0152_01.row.prog w) (worldKvs c pl kn bf hv tbf) → G) : G := by
  obtain ⟨_, _, _, h⟩ := x.hwd
  exact g _ _ _ h
theorem fourO {t1 t2 t3 t4 : Tok} : ∀ i < 4, ∃ x tm, ([.str (Str.ofString "extract") t1, .str (Str.ofString "concat") t2, .str (Str.ofString "zero_extend") t3, .str (Str.ofString "sign_extend") t4] : List Value)[i]? = some (.str x tm) ∧ isOp x
  | 0, _ => ⟨_, _, rfl, .inl rfl⟩ | 1, _ => ⟨_, _, rfl, .inr (.inl rfl)⟩ | 2, _ => ⟨_, _, rfl, .inr (.inr (.inl rfl))⟩ | 3, _ => ⟨_, _, rfl, .inr (.inr (.inr rfl))⟩
  | n + 4, h => absurd h (Nat.not_lt_of_le (Nat.le_add_left 4 n))
theorem have_fn {K : Frag} {f : Addr} {oc9 : Value} {od : Option Addr} {name qual : Str} {params : Arguments} {body : List Stmt} {scope : Scope} {dV kV doc pm : Value} {an : Option Addr} {cdv ct : Value} {osl : Array (Option Value)} (h : K.lookup f = some ⟨oc9, od, .func (fnOf name qual params body scope dV kV doc pm an cdv ct), osl⟩) :
    ∃ oc9 od name qual params body scope dV kV doc pm an cdv ct osl, K.lookup f = some ⟨oc9, od, .func (fnOf name qual params body scope dV kV doc pm an cdv ct), osl⟩ := ⟨_, _, _, _, _, _, _, _, _, _, _, _, _, _, _, h⟩
section
variable {w : World} {mean : ExcName → Option Value} {mg mb : Str → Option Value} {dp un : Nat} {gd : Option (List Code)} {env : Env} {outer : List Env} {A₀ : Around} {base h₀ g₀ : Heap} {L : Addr} {m : Str → Option Value} {s : Shared} {Q E : Value → Shared → Prop}
    {c : BA} {b : BSt} {Z : List (Addr × Obj)} {ts : List Tm} {sw : List Int} {fd cl pl kn wd pa e0 : Nat} {ofd ofd0 okn ow oX : Obj} {vs pv : List Value} {ns : List Int} {n pn lap q0 : Nat} {ks : List (List EK × Addr × Value)} {bl great t wx k : Int} {to tg tt tw tk0 tb tz : Tok} {x2 x3 : Value}
    {fa : Addr} {cdx : Value} {name qual : Str} {params : Arguments} {body : List Stmt} {scope : Scope} {dV kV doc pm cdv ct oc9 : Value} {an od : Option Addr} {osl : Array (Option Value)} {qk : Flow → Shared → Prop} {L' : Addr}
theorem step_op {op : Str} (ho : (heap w.params).lookup 736 = some ⟨oc9, od, .func (fnOf name qual params body scope dV kV doc pm an cdv ct), osl⟩) (B1 : Below ({ handled := none, depth := dp, frames := some outer, guards := gd, units := un } : Around) base outer h₀) (F1 : Fr h₀ L' s.heap m) (X1 : (heap w.params).In h₀) (T1 : Top view (looseW view []) mean mg mb h₀) (hdp : dp ≤ 420) (hun : un ≤ 410)
    (XB : (heap w.params).In base) (TB : Top view (looseW view []) mean mg mb base) (D : KtsDicts (outer.filterMap (·.frame)) h₀)
    (N1 : News h₀ L' s.heap ((pa, LO [.ref e0] 0) :: (L' + 1, oX) :: stepLed w.params c b fd cl pl kn wd ofd okn ow vs pv n pn Z)) (hoX : oX.data = .cell none) (O : c.Ord) (OX : fd < cl ∧ cl < c.bd ∧ c.bv < pl ∧ pl < wd ∧ wd < kn) (lo : (kn == sysModules) = false)
    (m2 : m (Str.ofString "parts") = some (.ref pa)) (m3 : m (Str.ofString "data") = some (.int 0 tz)) (m5 : m (Str.ofString "world") = some (.ref wd)) (m6 : m (Str.ofString "pool") = some (.ref pl)) (m7 : m (Str.ofString "feed") = some (.ref fd)) (m8 : m (Str.ofString "great") = some (.int great tg))
    (he0 : (e0, LO [.int t tt, .int wx tw, x2, x3] q0) ∈ Z) (W0 : wof ts sw t wx) (EB : EntBits Z wx x2 x3) (hpaL : @LT.lt Nat _ (L' + 1) pa) (zL : ∀ p ∈ Z, @LT.lt Nat _ p.1 L') (hwL : @LT.lt Nat _ kn L')
    (D6 : ofd.IsDictOf (PySem.strKind PySem.Challenge.rw_nz0152_01.row.prog w) (feedKvs cl k bl tk0 tb)) (hk0 : 0 ≤ k) (hk1 : k ≤ 10 + 10 * lap + 3) (hI : IntsAre vs ns) (hns : ns.length ≤ 40) (hb0 : 0 ≤ bl) (hb1 : bl ≤ 10000) (hlap : lap ≤ 50) (WX : WF w c fd cl pl kn wd bl lap b Z ts sw ofd0 okn ow pv ks)
    (ret : ∀ h₁ h' tk' m' b' Z' ts' sw' ofd' okn' ow' pv' pn' ks', KtsTurn (outer.filterMap (·.frame)) h₀ h₁ → Fr h₁ L' h' m' → Below ({ handled := none, depth := dp, frames := some outer, guards := gd, units := un } : Around) base outer h₁ → (heap w.params).In h₁ → Top view (looseW view []) mean mg mb h₁ → KtsDicts (outer.filterMap (·.frame)) h₁ →
      News h₁ L' h' (stepLed w.params c b' fd cl pl kn wd ofd' okn' ow' vs pv' n pn' Z') → WF w c fd cl pl kn wd bl (lap + 1) b' Z' ts' sw' ofd' okn' ow' pv' ks' → (∀ p ∈ Z, p ∈ Z') → qk (.ret (.bool true)) { s with heap := h', toks := tk' })
    (m1 : m (Str.ofString "op") = some (.str op to)) (hop : isOp op) :
    wpAny (model PySem.Challenge.rw_nz0152_01.row.prog w) (({ handled := none, depth := dp, frames := some outer, guards := gd, units := un } : Around).deeper (envOfC qual scope L' 736 cdv)) (execs (body.drop 2) (envOfC qual scope L' 736 cdv)) qk E s := by
  rcases hop with rfl | rfl | rfl | rfl
  · exact step_extr ho B1 F1 X1 T1 hdp hun XB TB D N1 hoX O OX lo m2 m3 m5 m6 m7 m8 he0 W0 EB hpaL zL hwL D6 hk0 hk1 hI hns hb0 hb1 hlap WX ret m1
  · exact step_conc ho B1 F1 X1 T1 hdp hun XB TB D N1 hoX O OX lo m2 m3 m5 m6 m7 m8 he0 W0 EB hpaL zL hwL D6 hk0 hk1 hI hns hb0 hb1 hlap WX ret m1
  · exact step_z ho B1 F1 X1 T1 hdp hun XB TB D N1 hoX O OX lo m2 m3 m5 m6 m7 m8 he0 W0 EB hpaL zL hwL D6 hk0 hk1 hI hns hb0 hb1 hlap WX ret m1
  · exact step_s ho B1 F1 X1 T1 hdp hun XB TB D N1 hoX O OX lo m2 m3 m5 m6 m7 m8 he0 W0 EB hpaL zL hwL D6 hk0 hk1 hI hns hb0 hb1 hlap WX ret m1
end
section
variable {w : World} {mean : ExcName → Option Value} {mg mb : Str → Option Value} {dp un : Nat} {gd : Option (List Code)} {env : Env} {outer : List Env} {A₀ : Around} {base h₀ g₀ : Heap} {L : Addr} {m : Str → Option Value} {s : Shared} {Q E : Value → Shared → Prop}
    {c : BA} {b : BSt} {Z : List (Addr × Obj)} {ts : List Tm} {sw : List Int} {fd cl pl kn wd : Nat} {ofd okn ow : Obj} {vs pv : List Value} {ns : List Int} {n pn lap : Nat} {ks : List (List EK × Addr × Value)} {bl great : Int} {tg : Tok}
set_option maxHeartbeats 20000000 in
/-- _law_step -/
theorem step (B : Below A₀ base outer h₀) (F : Fr h₀ L s.heap m) (X : (heap w.params).In h₀) (T : Top view (looseW view []) mean mg mb h₀)
    (XB : (heap w.params).In base) (TB : Top view (looseW view []) mean mg mb base) (D : KtsDicts (outer.filterMap (·.frame)) h₀) (T0 : KtsTurn (outer.filterMap (·.frame)) g₀ h₀)
    (hf : env.frame = some L) (hke : env.scope.kind = .function) (hdp : dp ≤ 420) (hun : un ≤ 410)
    (N : News h₀ L s.heap (stepLed w.params c b fd cl pl kn wd ofd okn ow vs pv n pn Z)) (O : c.Ord) (OX : fd < cl ∧ cl < c.bd ∧ c.bv < pl ∧ pl < wd ∧ wd < kn) (lo : (kn == sysModules) = false)
    (hI : IntsAre vs ns) (hns : ns.length ≤ 40) (hb0 : 0 ≤ bl) (hb1 : bl ≤ 10000) (hlap : lap ≤ 50) (WX : WF w c fd cl pl kn wd bl lap b Z ts sw ofd okn ow pv ks)
    (ret : ∀ h' tk' h₁ b' Z' ts' sw' ofd' okn' ow' pv' pn' ks', KtsTurn (outer.filterMap (·.frame)) g₀ h₁ → Fr h₁ L h' m → Below A₀ base outer h₁ → (heap w.params).In h₁ → Top view (looseW view []) mean mg mb h₁ → KtsDicts (outer.filterMap (·.frame)) h₁ → News h₁ L h' (stepLed w.params c b' fd cl pl kn wd ofd' okn' ow' vs pv' n pn' Z') → WF w c fd cl pl kn wd bl (lap + 1) b' Z' ts' sw' ofd' okn' ow' pv' ks' → (∀ p ∈ Z, p ∈ Z') → Q (.bool true) { s with heap := h', toks := tk' }) :
    wpAny (model PySem.Challenge.rw_nz0152_01.row.prog w) { handled := none, depth := dp, frames := some (env :: outer), guards := gd, units := un } (call (.ref 736) [.ref fd, .ref wd, .int great tg]) Q E s := by
  refine wf_feed WX fun k tk0 tb hfd hk0 hk1 => ?_
  refine wf_world WX fun bf hv0 tbf hwd => ?_
  have ZO := WX.ZO
  have zfd := WX.zfd
  have zpl := WX.zpl
  have zkn := WX.zkn
  have zwd := WX.zwd
  have I := WX.I
  have hP := WX.hP
  have hsm := WX.hsm
  have hpl := WX.sz.1
  have hk510 := kk0 hk1 hlap
  have S := oxs O OX
  have hfc : fd ≠ cl := Nat.ne_of_lt S.fc
  have hfp : fd ≠ pl := Nat.ne_of_lt S.fp
  have hfk : fd ≠ kn := Nat.ne_of_lt S.fk
  have hfw : fd ≠ wd := Nat.ne_of_lt S.fw
  have hWfd : ∀ p ∈ bankLed w.params c b Z, p.1 ≠ fd := led_off O (.inl S.fb) zfd
  refine wpAny_call ?_
  k_dflt (refine' code_defEC ?k1 ?k2 ?k3 ?k4 ?k5 ?XB ?TB ?D ?T0 ?kA ?kF ?kK ?k6 ?k7 ?k8 ?k9 ?kB ?kD ?_ ?c2 ?c3 ?c4)
  case kA => exact rfl
  case kF => exact hf
  case kK => exact hke
  case k1 => exact B
  case k2 => exact F
  case k3 => exact X
  case k4 => exact N
  case k5 => exact T
  case XB => exact XB
  case TB => exact TB
  case D => exact D
  case T0 => exact T0
  case k6 => k_is
  case k7 => k_is
  case k8 => ktr_room
  case k9 => exact BindsTo.of_eq rfl
  case kD => decide +kernel
  case kB => exact rfl
  case c2 => exact rfl
  case c3 => exact rfl
  case c4 => exact rfl
  intro g' L' h' tkc cells FG' F' N' CA' B' X' T' D' lC'
  have lC2 := lC'
  k_lt lC'
  obtain ⟨oc, hcE, dc⟩ := CellsAre.one CA'
  subst hcE
  clear CA'
  try simp only [List.cons_append, List.nil_append] at N'
  try dsimp only
  try k_lift B'
  dsimp only [stepLed] at N'
  have zL : ∀ p ∈ Z, @LT.lt Nat _ p.1 L' := fun p hp => lC2 p (.tail _ (.tail _ (.tail _ (.tail _ (.tail _ (bankLed_tail p hp))))))
  have hwL : @LT.lt Nat _ kn L' := lC2 (kn, okn) (.tail _ (.tail _ (.tail _ (.head _))))
  have X' := X'
  have T' := T'
  have ho' := by
    k_dflt (refine' hid_lk (K := heap w.params) (f := 736) ?h)
    case h => k_is
  clear lC2
  obtain ⟨W, hW⟩ : ∃ W, bankLed w.params c b Z = W := ⟨_, rfl⟩
  have hZW : ∀ p ∈ Z, p ∈ W := by rw [← hW]; exact bankLed_tail
  rw [hW] at N' hWfd
  try k_fold
  k_steps
  all_goals (try delta Stop)
  rename Fr g' L' _ _ => F9
  rename News g' L' _ _ => N9
  obtain ⟨vs4, hv4, NL⟩ : ∃ vs4, (∀ i < 4, ∃ x tm, vs4[i]? = some (.str x tm) ∧ isOp x) ∧ News g' L' _ [(Lk, LO vs4 0)] := ⟨_, fourO, news_sub N9 (by k_all)⟩
  refine draw (many := 4) (Y := (Lk, LO vs4 0) :: (L' + 1, oc) :: (pl, LO pv pn) :: (kn, okn) :: (wd, ow) :: W) B' F9 X' T' rfl rfl (dle hdp rfl) (ule hun rfl) (news_sub (nc NL N9 (.head _)) (by k_all)) hfc (by k_all) hfd hI hk0 (by omega) hb0 hb1 (by omega) hns fun r t1 h5 tk5 o5 t5 F5 N5 D5 r0 r1 => ?_
  obtain ⟨op, top, hget, hop⟩ := hv4 r.toNat (tlt (n := 4) r0 r1)
  clear F9 N9 NL
  dsimp only
  k_steps
  all_goals (try delta Stop)
  rename Fr g' L' _ _ => F9
  rename News g' L' _ _ => N9
  refine some_ (Y := (L' + 1, oc) :: (kn, okn) :: (wd, ow) :: W) B' F9 X' T' rfl rfl (dle hdp rfl) (ule hun rfl) (news_sub N9 (by k_all)) hfc hfp (by k_all) D5 hI (by omega) (by omega) hb0 hb1 hns (pool_of hP fun p hp => .tail _ (.tail _ (.tail _ (hZW p hp)))) (by omega) (hsm.mono fun p hp => .tail _ (.tail _ (.tail _ (hZW p hp)))) fun v h6 tk6 o6 t6 k6 F6 N6 D6 k60 k61 hv => ?_
  obtain ⟨e0, t, tt, wx, tw, x2, x3, q0, rfl, he0, W0, EB⟩ := hP v hv
  clear F9 N9
  dsimp only
  k_steps
  all_goals (try delta Stop)
  rename Fr g' L' _ _ => F9
  rename News g' L' _ _ => N9
  subst hW
  have NF := news_sub (news' := (Lk2, LO [.ref e0] 0) :: (L' + 1, oc) :: stepLed w.params c b fd cl pl kn wd o6 okn ow vs pv n pn Z) N9 (by k_all)
  refine step_op (unhid ho') B' F9 X' T' hdp (by omega) XB TB D' NF dc O OX lo (by with_unfolding_all rfl) (by with_unfolding_all rfl) (by with_unfolding_all rfl) (by with_unfolding_all rfl) (by with_unfolding_all rfl) (by with_unfolding_all rfl) he0 W0 EB (by omega) zL hwL D6 (by omega) (by omega) hI hns hb0 hb1 hlap WX (fun h₁ h' tk' m' b' Z' ts' sw' ofd' okn' ow' pv' pn' ks' KT F2 B2 X2 T2 D2 N2 WX2 zz => ?_) (by with_unfolding_all rfl) hop
  clear NF N9 F9
  k_steps
  all_goals (try delta Stop)
  rename KtsTurn _ _ _ => kT
  rename Fr _ L _ _ => kF
  rename News _ L _ _ => kN
  rename Below _ _ _ _ => kB
  exact ret _ _ _ b' Z' ts' sw' ofd' okn' ow' pv' pn' ks' kT kF kB (by assumption) (by assumption) (by assumption) kN WX2 zz
end
end
section
open PySem PySem.W PySem.Calls PyProof.Rows
noncomputable abbrev iDict1 (P : Params) (sn sw fn fa fr to ta ts td nu : Nat) (kt : Nat → Tok) (qn : Nat) : Obj := dictOf [ent P "sort_names" (kt 0) (.ref sn), ent P "sort_widths" (kt 1) (.ref sw), ent P "fun_names" (kt 2) (.ref fn), ent P "fun_args" (kt 3) (.ref fa), ent P "fun_results" (kt 4) (.ref fr), ent P "fresh_count" (kt 5) (.int 0 (kt 6)), ent P "term_ops" (kt 7) (.ref to), ent P "term_args" (kt 8) (.ref ta), ent P "term_sorts" (kt 9) (.ref ts), ent P "term_datas" (kt 10) (.ref td), ent P "numbers" (kt 11) (.ref nu)] qn
noncomputable abbrev iLed1 (P : Params) (bk bd sn sw fn fa fr to ta ts td nu : Nat) (kt : Nat → Tok) (qn : Nat) (vo va vs vd : List Value) (co ca cs cd : Nat) (onu : Obj) (Z : List (Addr × Obj)) : List (Addr × Obj) :=
  (bk, instObj 677 bd) :: (bd, iDict1 P sn sw fn fa fr to ta ts td nu kt qn) :: (to, LO vo co) :: (ta, LO va ca) :: (ts, LO vs cs) :: (td, LO vd cd) :: (nu, onu) :: Z
noncomputable abbrev iDict2 (P : Params) (sn sw fn fa fr to ta ts td nu : Nat) (kt : Nat → Tok) (qn : Nat) : Obj := dictOf [ent P "sort_names" (kt 0) (.ref sn), ent P "sort_widths" (kt 1) (.ref sw), ent P "fun_names" (kt 2) (.ref fn), ent P "fun_args" (kt 3) (.ref fa), ent P "fun_results" (kt 4) (.ref fr), ent P "fresh_count" (kt 5) (.int 0 (kt 6)), ent P "term_ops" (kt 7) (.ref to), ent P "term_args" (kt 8) (.ref ta), ent P "term_sorts" (kt 9) (.ref ts), ent P "term_datas" (kt 10) (.ref td), ent P "numbers" (kt 11) (.ref nu), ent P "true_number" (kt 12) (.int 1 (kt 13))] qn
noncomputable abbrev iLed2 (P : Params) (bk bd sn sw fn fa fr to ta ts td nu : Nat) (kt : Nat → Tok) (qn : Nat) (vo va vs vd : List Value) (co ca cs cd : Nat) (onu : Obj) (Z : List (Addr × Obj)) : List (Addr × Obj) :=
  (bk, instObj 677 bd) :: (bd, iDict2 P sn sw fn fa fr to ta ts td nu kt qn) :: (to, LO vo co) :: (ta, LO va ca) :: (ts, LO vs cs) :: (td, LO vd cd) :: (nu, onu) :: Z
section
variable {w : World} {mean : ExcName → Option Value} {mg mb : Str → Option Value} {dp un : Nat} {gd : Option (List Code)} {env : Env} {outer : List Env} {A₀ : Around} {base h₀ : Heap} {L : Addr} {m : Str → Option Value} {s : Shared} {Q E : Value → Shared → Prop}
    {bk bd sn sw fn fa fr to ta ts td nu : Nat} {kt : Nat → Tok} {qn : Nat} {vo va vs vd : List Value} {co ca cs cd : Nat} {onu : Obj} {xs : List (List EK × Addr × Value)} {Z : List (Addr × Obj)} {op : Str} {to' ts' : Tok} {at' : Addr} {so : Int} {dv : Value} {al : List Int} {dk : EK}
set_option maxHeartbeats 20000000 in
theorem make_i1 (B : Below A₀ base outer h₀) (F : Fr h₀ L s.heap m) (X : (heap w.params).In h₀) (T : Top view (looseW view []) mean mg mb h₀)
    (hf : env.frame = some L) (hk : env.scope.kind = .function) (hdp : dp ≤ 450) (hun : un ≤ 500)
    (N : News h₀ L s.heap (iLed1 w.params bk bd sn sw fn fa fr to ta ts td nu kt qn vo va vs vd co ca cs cd onu Z))
    (NU : NuIs PySem.Challenge.rw_nz0152_01.row.prog w Z onu xs) (O : bd < bk ∧ bk < to ∧ to < ta ∧ ta < ts ∧ ts < td ∧ td < nu) (lo1 : (nu == sysModules) = false) (z5 : ∀ p ∈ Z, p.1 ≠ to) (z6 : ∀ p ∈ Z, p.1 ≠ ta) (z7 : ∀ p ∈ Z, p.1 ≠ ts) (z8 : ∀ p ∈ Z, p.1 ≠ td) (z9 : ∀ p ∈ Z, p.1 ≠ nu)
    (hop : PyData.strOk op = true) (hal : EKin Z (.t al) (.ref at')) (hdk : EKin Z dk dv) (hnone : atKey xs [.s op, .t al, .i so, dk] = none)
    (hlen : vo.length ≤ 900) (hlen2 : va.length ≤ 900) (hlen3 : vs.length ≤ 900) (hlen4 : vd.length ≤ 900) (hlen5 : xs.length ≤ 900)
    (ret : ∀ h' tk' t q onu' us, Fr h₀ L h' m → News h₀ L h' (iLed1 w.params bk bd sn sw fn fa fr to ta ts td nu kt qn (vo ++ [.str op to']) (va ++ [.ref at']) (vs ++ [.int so ts']) (vd ++ [dv]) (co + 1) (ca + 1) (cs + 1) (cd + 1) onu' ((q, tupO us) :: Z)) →
      NuIs PySem.Challenge.rw_nz0152_01.row.prog w ((q, tupO us) :: Z) onu' (xs ++ [([.s op, .t al, .i so, dk], q, .int vo.length t)]) → nu < q → (∀ p ∈ Z, @LT.lt Nat _ p.1 q) → Q (.int vo.length t) { s with heap := h', toks := tk' }) :
    wpAny (model PySem.Challenge.rw_nz0152_01.row.prog w) { handled := none, depth := dp, frames := some (env :: outer), guards := gd, units := un } (call (.ref 298) [.ref bk, .str op to', .ref at', .int so ts', dv]) Q E s :=
  make_G B F X T hf hk hdp hun N rfl rfl rfl rfl rfl NU (fun _ h => h) O lo1 z5 z6 z7 z8 z9 hop hal hdk hnone hlen hlen2 hlen3 hlen4 hlen5 fun h' tk' t q onu' us F' N' NU' hq hz => ret h' tk' t q onu' us F' (fun p hp => N' p (sub_cons mem1 (sub_cons mem2 (sub_cons mem3 (sub_cons mem4 (sub_cons mem5 (sub_cons mem6 (sub_cons mem7 (sub_cons mem0 in8))))))) p hp)) NU' hq hz
set_option maxHeartbeats 20000000 in
theorem make_i2 (B : Below A₀ base outer h₀) (F : Fr h₀ L s.heap m) (X : (heap w.params).In h₀) (T : Top view (looseW view []) mean mg mb h₀)
    (hf : env.frame = some L) (hk : env.scope.kind = .function) (hdp : dp ≤ 450) (hun : un ≤ 500)
    (N : News h₀ L s.heap (iLed2 w.params bk bd sn sw fn fa fr to ta ts td nu kt qn vo va vs vd co ca cs cd onu Z))
    (NU : NuIs PySem.Challenge.rw_nz0152_01.row.prog w Z onu xs) (O : bd < bk ∧ bk < to ∧ to < ta ∧ ta < ts ∧ ts < td ∧ td < nu) (lo1 : (nu == sysModules) = false) (z5 : ∀ p ∈ Z, p.1 ≠ to) (z6 : ∀ p ∈ Z, p.1 ≠ ta) (z7 : ∀ p ∈ Z, p.1 ≠ ts) (z8 : ∀ p ∈ Z, p.1 ≠ td) (z9 : ∀ p ∈ Z, p.1 ≠ nu)
    (hop : PyData.strOk op = true) (hal : EKin Z (.t al) (.ref at')) (hdk : EKin Z dk dv) (hnone : atKey xs [.s op, .t al, .i so, dk] = none)
    (hlen : vo.length ≤ 900) (hlen2 : va.length ≤ 900) (hlen3 : vs.length ≤ 900) (hlen4 : vd.length ≤ 900) (hlen5 : xs.length ≤ 900)
    (ret : ∀ h' tk' t q onu' us, Fr h₀ L h' m → News h₀ L h' (iLed2 w.params bk bd sn sw fn fa fr to ta ts td nu kt qn (vo ++ [.str op to']) (va ++ [.ref at']) (vs ++ [.int so ts']) (vd ++ [dv]) (co + 1) (ca + 1) (cs + 1) (cd + 1) onu' ((q, tupO us) :: Z)) →
      NuIs PySem.Challenge.rw_nz0152_01.row.prog w ((q, tupO us) :: Z) onu' (xs ++ [([.s op, .t al, .i so, dk], q, .int vo.length t)]) → nu < q → (∀ p ∈ Z, @LT.lt Nat _ p.1 q) → Q (.int vo.length t) { s with heap := h', toks := tk' }) :
    wpAny (model PySem.Challenge.rw_nz0152_01.row.prog w) { handled := none, depth := dp, frames := some (env :: outer), guards := gd, units := un } (call (.ref 298) [.ref bk, .str op to', .ref at', .int so ts', dv]) Q E s :=
  make_G B F X T hf hk hdp hun N rfl rfl rfl rfl rfl NU (fun _ h => h) O lo1 z5 z6 z7 z8 z9 hop hal hdk hnone hlen hlen2 hlen3 hlen4 hlen5 fun h' tk' t q onu' us F' N' NU' hq hz => ret h' tk' t q onu' us F' (fun p hp => N' p (sub_cons mem1 (sub_cons mem2 (sub_cons mem3 (sub_cons mem4 (sub_cons mem5 (sub_cons mem6 (sub_cons mem7 (sub_cons mem0 in8))))))) p hp)) NU' hq hz
end
end
section
open PySem PySem.W PySem.Calls PyProof.Rows
set_option hygiene false in
local macro_rules | `(tactic| walk_at "call ref") => `(tactic| with_reducible first | refine st_686 ?_)
section
variable {w : World} {mean : ExcName → Option Value} {mg mb : Str → Option Value} {dp un : Nat} {gd : Option (List Code)} {env : Env} {outer : List Env} {A₀ : Around} {base h₀ g₀ : Heap} {L : Addr} {m : Str → Option Value} {s : Shared} {Q E : Value → Shared → Prop}
    {fd cl I C D2 : Nat} {oI oC oF : Obj} {ys : List Value} {Y : List (Addr × Obj)} {p1 p2 p3 p4 : Pos} {m₂ : Str → Option Value} {k : Int} {t : Tok}
noncomputable abbrev scD : Scope := { kind := .function, names := [(Str.ofString ".0", .local), (Str.ofString "k", .local), (Str.ofString "_law_draw", .globalImplicit), (Str.ofString "feed", .free)], isGenerator := false, isCoroutine := false }
set_option maxHeartbeats 20000000 in
theorem draw_turn {A : Around} (hg : env.globals = mainGlobals) (hke : (compEnvC scD [(Str.ofString "feed", L + 1)] C env).kindOf (Str.ofString "feed") = some .cell) (X1 : (heap w.params).In h₀) (T1 : Top view (looseW view []) mean mg mb h₀) (F : Fr h₀ L s.heap m) (N : News h₀ L s.heap Y) (hF : ((L + 1 : Nat), oF) ∈ Y) (hoF : oF.data = .cell (some (.ref fd)))
    (h : ∀ t, wpAny (model PySem.Challenge.rw_nz0152_01.row.prog w) A (call (.ref 686) [.ref fd, .int 2 t]) Q E { s with toks := s.toks + 1 }) :
    wpAny (model PySem.Challenge.rw_nz0152_01.row.prog w) A (eval (.Call (.Name (Str.ofString "_law_draw") p1) [.Name (Str.ofString "feed") p2, .Constant (.int 2) 0 p3] [] p4) (compEnvC scD [(Str.ofString "feed", L + 1)] C env)) Q E s := by
  refine Call_ ?_
  refine LCgL.ld_global F X1 T1 (by k_is) ?_ hg rfl rfl
  k_dflt (refine' callWith_K ?k1 ?k2 ?_)
  case k1 => exact X1
  case k2 => k_is
  refine spliced_more ?_
  refine lcf_cell N rfl hF hoF ?_ rfl hke
  refine spliced_more ?_
  refine wpAny_Constant_int ?_
  refine spliced_none ?_
  exact ⟨X1.keeps F.keep, h _⟩
noncomputable abbrev elD (p1 p2 p3 p4 : Pos) : PySem.Expr := .Call (.Name (Str.ofString "_law_draw") p1) [.Name (Str.ofString "feed") p2, .Constant (.int 2) 0 p3] [] p4
/-- `[_law_draw(feed, 2) for k in range(wide)]`, turn by turn -/
theorem draws_rest {A₁ : Around} (hA : A₁ = { handled := none, depth := dp, frames := some (env :: outer), guards := gd, units := un }) {vs : List Value} {ns : List Int} {n nw : Nat} {b k0 : Int} {tb : Tok} {Yr : List (Addr × Obj)} {S : List (Addr × Obj) → Prop} {P : Nat → Value → Prop} {Fin : List Value → List (Addr × Obj) → Prop} (B : Below A₀ base outer h₀) (X : (heap w.params).In h₀) (T : Top view (looseW view []) mean mg mb h₀) (hf : env.frame = some L) (hke : env.scope.kind = .function) (hdp : dp ≤ 420) (hun : un ≤ 400)
    (hg : env.globals = mainGlobals) (hfree : ∀ C, (compEnvC scD [(Str.ofString "feed", L + 1)] C env).kindOf (Str.ofString "feed") = some .cell) (hF : ((L + 1 : Nat), oF) ∈ Yr) (hoF : oF.data = .cell (some (.ref fd))) (hfc : fd ≠ cl) (hYr : ∀ p ∈ Yr, p.1 ≠ fd) (hI : IntsAre vs ns) (hns : ns.length ≤ 40) (hb0 : 0 ≤ b) (hb1 : b ≤ 10000) (hnw : nw ≤ 10) (h00 : 0 ≤ k0) (h01 : k0 ≤ 100) (hS : ∀ l, S l)
    (fin : ∀ ys bs ofd k tk, IntsAre ys bs → Bits bs → bs.length = nw → ofd.IsDictOf (PySem.strKind PySem.Challenge.rw_nz0152_01.row.prog w) (feedKvs cl k b tk tb) → 0 ≤ k → k ≤ k0 + nw → Fin ys ((fd, ofd) :: (cl, LO vs n) :: Yr)) :
    ∀ j i ys bs ofd k tk, i + j = nw → IntsAre ys bs → Bits bs → bs.length = i → ofd.IsDictOf (PySem.strKind PySem.Challenge.rw_nz0152_01.row.prog w) (feedKvs cl k b tk tb) → 0 ≤ k → k ≤ k0 + i →
      LCg.CompRest PySem.Challenge.rw_nz0152_01.row.prog w A₁ h₀ L m env (elD p1 p2 p3 p4) (Str.ofString "k") scD [(Str.ofString "feed", L + 1)] s S P Fin j i ys ((fd, ofd) :: (cl, LO vs n) :: Yr)
  | 0, i, ys, bs, ofd, k, tk, hi, hy, hbs, hl, hd', g0, g1 => LCg.CompRest.zero (fin ys bs ofd k tk hy hbs (hl.trans hi) hd' g0 (by have h : i = nw := hi; rw [← h]; exact g1))
  | j + 1, i, ys, bs, ofd, k, tk, hi, hy, hbs, hl, hd', g0, g1 => by
    refine LCg.CompRest.succ fun v I oI C oC D m₂ h tk2 E' _ hC hx F N off ne => ?_
    have o1 := (off.mem (fd, ofd) (.head _))
    have hk9 : k ≤ 1000 := Int.le_trans g1 (Int.le_trans (Int.add_le_add h01 (Int.ofNat_le.mpr (Nat.le_trans (Nat.le.intro hi) hnw))) (by decide))
    refine draw_turn hg (hfree C) X T F N (.tail _ (.tail _ (.tail _ (.tail _ (.tail _ hF))))) hoF fun t => ?_
    subst hA
    refine draw (many := 2) (n := n) (Y := (I, oI) :: (C, oC) :: (D, LCg.lst ys) :: Yr) B F X T hf hke (by omega) (by omega) (fun p hp => N p ?_) hfc ?_ hd' hI g0 (by omega) hb0 hb1 (by omega) hns fun r t3 h' tk' o' t' F' N' D' r0 r1 => ?_
    · simp only [List.mem_cons] at hp ⊢
      rcases hp with hp | hp | hp | hp | hp | hp
      · exact .inr (.inr (.inr (.inl hp)))
      · exact .inr (.inr (.inr (.inr (.inl hp))))
      · exact .inl hp
      · exact .inr (.inl hp)
      · exact .inr (.inr (.inl hp))
      · exact .inr (.inr (.inr (.inr (.inr hp))))
    · exact all_cons (Ne.symm o1.1) (all_cons (Ne.symm o1.2.1) (all_cons (Ne.symm o1.2.2) hYr))
    · refine ⟨h', tk', (fd, o') :: (cl, LO vs n) :: Yr, rfl, F', fun p hp => N' p ?_, off, hS _, draws_rest rfl B X T hf hke hdp hun hg hfree hF hoF hfc hYr hI hns hb0 hb1 hnw h00 h01 hS fin j (i + 1) _ (bs ++ [r]) o' (k + 1) t' ((Nat.add_right_comm i 1 j).trans hi) (hy.append (.cons r t3 .nil)) (hbs.append fun z hz => by rw [List.mem_singleton.mp hz]; exact two r0 r1) (by simp [hl]) D' (by omega) (by show k + 1 ≤ k0 + ((i : Int) + 1); rw [← Int.add_assoc]; exact Int.add_le_add_right g1 1)⟩
      simp only [List.mem_cons] at hp ⊢
      rcases hp with hp | hp | hp | hp | hp | hp
      · exact .inr (.inr (.inl hp))
      · exact .inr (.inr (.inr (.inl hp)))
      · exact .inr (.inr (.inr (.inr (.inl hp))))
      · exact .inl hp
      · exact .inr (.inl hp)
      · exact .inr (.inr (.inr (.inr (.inr hp))))
end
section
variable {w : World} {A : Around} {h₀ : Heap} {L : Addr} {m : Str → Option Value} {E : Value → Shared → Prop} {s : Shared} {h g : Heap} {env : Env} {S : List (Addr × Obj) → Prop} {m₂ : Str → Option Value} {I C D cc bl : Nat} {oI oC oE : Obj} {ys bv : List Value} {l bs : List Int} {k : Int} {t te : Tok} {q bn tk : Nat} {Y : List (Addr × Obj)}
  {p1 p4 p5 p6 p7 p8 p9 p10 : Pos}
noncomputable abbrev scS : Scope := { kind := .function, names := [(Str.ofString ".0", .local), (Str.ofString "k", .local), (Str.ofString "some", .free)], isGenerator := false, isCoroutine := false }
noncomputable abbrev ctS (p1 p4 p5 p6 p7 : Pos) : PySem.Expr := .Compare (.Subscript (.Name (Str.ofString "some") p1) (.Name (Str.ofString "k") p4) p5) [.Eq] [.Constant (.int 1) 0 p6] p7
theorem some_turn (F : Fr h₀ L h m) (N : News h₀ L h ((I, oI) :: (C, oC) :: (D, LCg.lst ys) :: Y)) (hcc : (cc, oE) ∈ Y) (hbl : (bl, LO bv bn) ∈ Y) (hoE : oE.data = .cell (some (.ref bl))) (hI : IntsAre ys l) (hC : LCg.NsObj oC m₂) (hx : m₂ (Str.ofString "k") = some (.int k t))
    (off : LCg.Off3 I C D Y) (ne : (@Ne Nat I C) ∧ (@Ne Nat I D) ∧ (@Ne Nat C D)) (h0 : 0 ≤ k) (h1 : k < 100) (hget : bv[k.toNat]? = some (.int (bs.getD k.toNat 0) te)) (hS : ∀ l, S l) (hke : (compEnvC scS [(Str.ofString "some", cc)] C env).kindOf (Str.ofString "some") = some .cell) :
    wpAny (model PySem.Challenge.rw_nz0152_01.row.prog w) A (isTrue (ctS p1 p4 p5 p6 p7) (compEnvC scS [(Str.ofString "some", cc)] C env) (eval (ctS p1 p4 p5 p6 p7) (compEnvC scS [(Str.ofString "some", cc)] C env)))
      (fun b s' => if b = true then wpAny (model PySem.Challenge.rw_nz0152_01.row.prog w) A (eval (elK p8 p9 p10) (compEnvC scS [(Str.ofString "some", cc)] C env)) (LCg.CompEnd h₀ L m { s with heap := h, toks := tk } I oI C oC D (LCg.lst ys) S (fun y news' => KCiEl Y l (bitG bs l k) y news')) E s'
        else LCg.CompEnd h₀ L m { s with heap := h, toks := tk } I oI C oC D (LCg.lst ys) S (fun _ news' => KCiNo Y l (bitG bs l k) news') Value.none s') E { s with heap := h, toks := tk } := by
  have mC : (C, oC) ∈ (I, oI) :: (C, oC) :: (D, LCg.lst ys) :: Y := .tail _ (.head _)
  have up : ∀ p ∈ Y, p ∈ (I, oI) :: (C, oC) :: (D, LCg.lst ys) :: Y := fun p hp => .tail _ (.tail _ (.tail _ hp))
  refine wpAny_isTrue_Compare1 ?_
  refine Subscript_ ?_
  refine lcf_cell N rfl (up _ hcc) hoE ?_ rfl hke
  refine LCgL.ld_own (by exact N) mC hC hx ?_
  refine item_LO (by exact N) (up _ hbl) hget h0 (by omega) ?_
  refine wpAny_Constant_int ?_
  refine eq_int ?_
  refine wpAny_truthy_bool ?_
  by_cases hb : bs.getD k.toNat 0 = 1
  · rw [show ((bs.getD k.toNat 0) == 1) = true by simpa using hb, if_pos rfl]
    refine wpAny_BinOp ?_
    refine wpAny_Constant_int ?_
    refine LCgL.ld_own (by exact N) mC hC hx ?_
    refine pow_int_small h0 (by omega) (by decide) ?_
    exact LCg.CompEnd.intro (tk := _) F N _ (fun _ h => h) off (hS _) (kci_el (by simp only [bitG, if_pos hb]) rfl rfl)
  · rw [show ((bs.getD k.toNat 0) == 1) = false by simpa using hb, if_neg (by simp)]
    exact LCg.CompEnd.intro (tk := _) F N _ (fun _ h => h) off (hS _) (kci_no (by simp only [bitG, if_neg hb]) rfl)
end
end
section
open PySem PySem.W PySem.Calls PyProof.Rows
theorem tup_drop {xs Z : List (Addr × Obj)} (ht : ∀ p ∈ xs, ∀ us, p.2 ≠ tupO us) {a : Addr} {us : List Value} (h : (a, tupO us) ∈ xs ++ Z) : (a, tupO us) ∈ Z := by
  rcases List.mem_append.mp h with h | h
  · exact absurd rfl (ht _ h us)
  · exact h
theorem BA.Off.append {c : BA} {xs Z : List (Addr × Obj)} (x : c.Off xs) (y : c.Off Z) : c.Off (xs ++ Z) := by
  have g : ∀ {f : Addr × Obj → Prop}, (∀ p ∈ xs, f p) → (∀ p ∈ Z, f p) → ∀ p ∈ xs ++ Z, f p := fun a b p hp => (List.mem_append.mp hp).elim (a p) (b p)
  exact ⟨g x.bk y.bk, g x.bd y.bd, g x.sn y.sn, g x.sw y.sw, g x.to y.to, g x.ta y.ta, g x.ts y.ts, g x.td y.td, g x.nu y.nu, g x.bv y.bv⟩
/-- the turning objects beside the bank -/
structure Beside (c : BA) (xs Z : List (Addr × Obj)) : Prop where
  nt : ∀ p ∈ xs, ∀ us, p.2 ≠ tupO us
  off : c.Off xs
  z : ∀ p ∈ Z, ∀ x ∈ xs, p.1 ≠ x.1
section
variable {w : World} {mean : ExcName → Option Value} {mg mb : Str → Option Value} {dp un : Nat} {gd : Option (List Code)} {env : Env} {outer : List Env} {A₀ : Around} {base h₀ : Heap} {L : Addr} {m : Str → Option Value} {s : Shared} {Q E : Value → Shared → Prop}
    {c : BA} {b : BSt} {xs Z : List (Addr × Obj)} {wd : Int} {tw : Tok} {ts : List Tm} {sw : List Int}
theorem sort_x (B : Below A₀ base outer h₀) (F : Fr h₀ L s.heap m) (X : (heap w.params).In h₀) (T : Top view (looseW view []) mean mg mb h₀)
    (hf : env.frame = some L) (hk : env.scope.kind = .function) (hdp : dp ≤ 445) (hun : un ≤ 485)
    (N : News h₀ L s.heap (xs ++ bankLed w.params c b Z)) (BS : Beside c xs Z) (I : BInv w Z b ts sw) (O : c.Ord) (ZO : c.Off Z)
    (h1 : 1 ≤ wd) (h2 : wd ≤ 4096) (hl : sw.length ≤ 900)
    (ret : ∀ h' tk' b' sw' (j : Nat) tj, Fr h₀ L h' m → News h₀ L h' (xs ++ bankLed w.params c b' Z) → BInv w Z b' ts sw' → sw <+: sw' → sw'.length ≤ sw.length + 1 → sw'[j]? = some wd → 3 ≤ j → Q (.int j tj) { s with heap := h', toks := tk' }) :
    wpAny (model PySem.Challenge.rw_nz0152_01.row.prog w) { handled := none, depth := dp, frames := some (env :: outer), guards := gd, units := un } (call (.ref 583) [.ref c.bk, .int wd tw]) Q E s :=
  bv_any B F X T hf hk hdp hun (news_sub N led_perm) (I.mono fun p hp => List.mem_append_right _ hp) O (BS.off.append ZO) h1 h2 hl fun h' tk' b' sw' j tj F' N' I' p1 p2 p3 p4 =>
    ret h' tk' b' sw' j tj F' (news_sub N' led_perm') (I'.monoT fun a us h => tup_drop BS.nt h) p1 p2 p3 p4
theorem make_x (B : Below A₀ base outer h₀) (F : Fr h₀ L s.heap m) (X : (heap w.params).In h₀) (T : Top view (looseW view []) mean mg mb h₀)
    (hf : env.frame = some L) (hk : env.scope.kind = .function) (hdp : dp ≤ 445) (hun : un ≤ 485) {op : Str} {to' ts' : Tok} {at' : Addr} {so : Int} {dv : Value} {al : List Int} {dk : EK}
    (N : News h₀ L s.heap (xs ++ bankLed w.params c b Z)) (BS : Beside c xs Z) (I : BInv w Z b ts sw) (O : c.Ord) (ZO : c.Off Z)
    (hop : PyData.strOk op = true) (hal : EKin Z (.t al) (.ref at')) (hdk : EKin Z dk dv) (hl : ts.length ≤ 900)
    (ret : ∀ h' tk' b' Z' ts2 (r : Nat) tr, Fr h₀ L h' m → News h₀ L h' (xs ++ bankLed w.params c b' Z') → Beside c xs Z' → BInv w Z' b' ts2 sw → (∀ p ∈ Z, p ∈ Z') → c.Off Z' → 1 ≤ r → ts2[r]? = some ⟨op, al, so, dk⟩ →
      (ts2 = ts ∨ (ts2 = ts ++ [⟨op, al, so, dk⟩] ∧ r = ts.length ∧ ∀ i : Nat, 1 ≤ i → ts[i]? ≠ some ⟨op, al, so, dk⟩)) → Q (.int r tr) { s with heap := h', toks := tk' }) :
    wpAny (model PySem.Challenge.rw_nz0152_01.row.prog w) { handled := none, depth := dp, frames := some (env :: outer), guards := gd, units := un } (call (.ref 298) [.ref c.bk, .str op to', .ref at', .int so ts', dv]) Q E s := by
  refine make_any B F X T hf hk hdp hun (news_sub N led_perm) (I.mono fun p hp => List.mem_append_right _ hp) O (BS.off.append ZO) hop (hal.mono fun p hp => List.mem_append_right _ hp) (hdk.mono fun p hp => List.mem_append_right _ hp) hl fun h' tk' b' Z' ts2 r tr F' N' I' zs ZO' r1 r2 r3 => ?_
  obtain ⟨Zn, zn1, zn2, zn3, zn4⟩ := purge N' (Z7 := Z') (fun p hp => bankLed_tail p hp) xs (fun p hp => bankLed_tail p (zs p (List.mem_append_left _ hp))) BS.nt
  refine ret h' tk' b' Zn ts2 r tr F' (fun p hp => ?_) ⟨BS.nt, BS.off, zn3⟩ (I'.monoT zn4) (fun p hp => zn2 p (zs p (List.mem_append_right _ hp)) (BS.z p hp)) (ZO'.sub zn1) r1 r2 r3
  rcases List.mem_append.mp hp with hp | hp
  · exact N' p (bankLed_tail p (zs p (List.mem_append_left _ hp)))
  · exact N' p (bankLed_sub zn1 p hp)
end
end
section
open PySem PySem.W PySem.Calls PyProof.Rows
local macro_rules | `(tactic| walk_at "pad0") => `(tactic| skip)
theorem bank_ne {P : Params} {c : BA} {b : BSt} {xs Z : List (Addr × Obj)} {a : Addr} {o : Obj} (x : c.Off xs) (ha : (a, o) ∈ xs) (hZ : ∀ p ∈ Z, p.1 ≠ a) : ∀ p ∈ bankLed P c b Z, p.1 ≠ a :=
  (all_cons (Ne.symm (x.bk _ ha)) (all_cons (Ne.symm (x.bd _ ha)) (all_cons (Ne.symm (x.sn _ ha)) (all_cons (Ne.symm (x.sw _ ha)) (all_cons (Ne.symm (x.to _ ha)) (all_cons (Ne.symm (x.ta _ ha)) (all_cons (Ne.symm (x.ts _ ha)) (all_cons (Ne.symm (x.td _ ha)) (all_cons (Ne.symm (x.nu _ ha)) (all_cons (Ne.symm (x.bv _ ha)) hZ))))))))))
theorem Beside.to {c : BA} {xs xs' Z Z' : List (Addr × Obj)} (x : Beside c xs Z) (hm : xs'.map (·.1) = xs.map (·.1)) (nt : ∀ p ∈ xs', ∀ us, p.2 ≠ tupO us) (hz : ∀ p ∈ Z', p ∈ Z ∨ ∀ x ∈ xs, p.1 ≠ x.1) : Beside c xs' Z' := by
  have g : ∀ p ∈ xs', ∃ q ∈ xs, q.1 = p.1 := fun p hp => by
    have : p.1 ∈ xs.map (·.1) := by rw [← hm]; exact List.mem_map_of_mem hp
    obtain ⟨q, hq, e⟩ := List.mem_map.mp this
    exact ⟨q, hq, e⟩
  have l : ∀ {f : Addr → Prop}, (∀ p ∈ xs, f p.1) → ∀ p ∈ xs', f p.1 := fun h p hp => by
    obtain ⟨q, hq, e⟩ := g p hp
    rw [← e]; exact h q hq
  refine ⟨nt, ⟨l (f := fun a => a ≠ c.bk) x.off.bk, l (f := fun a => a ≠ c.bd) x.off.bd, l (f := fun a => a ≠ c.sn) x.off.sn, l (f := fun a => a ≠ c.sw) x.off.sw, l (f := fun a => a ≠ c.to) x.off.to, l (f := fun a => a ≠ c.ta) x.off.ta, l (f := fun a => a ≠ c.ts) x.off.ts, l (f := fun a => a ≠ c.td) x.off.td, l (f := fun a => a ≠ c.nu) x.off.nu, l (f := fun a => a ≠ c.bv) x.off.bv⟩, fun p hp q hq => ?_⟩
  obtain ⟨r, hr, e⟩ := g q hq
  rw [← e]
  rcases hz p hp with h | h
  · exact x.z p h r hr
  · exact h r hr
theorem left_of {a b : Nat} (_ : a < b) : ∃ z, z = a := ⟨a, rfl⟩
set_option hygiene false in
local macro_rules | `(tactic| walk_at "call ref") => `(tactic| ((with_reducible first | refine at_207 ?_); walk_at "in place"))
set_option hygiene false in
local macro_rules | `(tactic| walk_at "call ref") => `(tactic| with_reducible first | refine st_298 ?_ | refine st_583 ?_)
section
variable {w : World} {mean : ExcName → Option Value} {mg mb : Str → Option Value} {dp un : Nat} {gd : Option (List Code)} {env : Env} {outer : List Env} {A₀ : Around} {base h₀ : Heap} {L : Addr} {m : Str → Option Value} {s : Shared} {Q E : Value → Shared → Prop}
    {c : BA} {b : BSt} {xs Z : List (Addr × Obj)} {ts : List Tm} {sw : List Int} {f1 f2 f3 : List Value} {n1 n2 n3 : Nat} {name : Str} {so : Int} {tn tso : Tok}
set_option maxHeartbeats 20000000 in
theorem fresh_c (B : Below A₀ base outer h₀) (F : Fr h₀ L s.heap m) (X : (heap w.params).In h₀) (T : Top view (looseW view []) mean mg mb h₀)
    (hf : env.frame = some L) (hk : env.scope.kind = .function) (hdp : dp ≤ 440) (hun : un ≤ 470)
    (N : News h₀ L s.heap (((c.fn, LO f1 n1) :: (c.fa, LO f2 n2) :: (c.fr, LO f3 n3) :: xs) ++ bankLed w.params c b Z)) (BS : Beside c ((c.fn, LO f1 n1) :: (c.fa, LO f2 n2) :: (c.fr, LO f3 n3) :: xs) Z) (I : BInv w Z b ts sw) (O : c.Ord) (ZO : c.Off Z)
    (OF : c.fn < c.fa ∧ c.fa < c.fr) (xo : ∀ p ∈ xs, p.1 ≠ c.fn ∧ p.1 ≠ c.fa ∧ p.1 ≠ c.fr) (hl : ts.length ≤ 900) (hf1 : f1.length ≤ 100) (hf2 : f2.length ≤ 100) (hf3 : f3.length ≤ 100)
    (ret : ∀ h' tk' b' Z' ts2 (r : Nat) tr f1' f2' f3' n1' n2' n3' d, Fr h₀ L h' m → News h₀ L h' (((c.fn, LO f1' n1') :: (c.fa, LO f2' n2') :: (c.fr, LO f3' n3') :: xs) ++ bankLed w.params c b' Z') → Beside c ((c.fn, LO f1' n1') :: (c.fa, LO f2' n2') :: (c.fr, LO f3' n3') :: xs) Z' → f1'.length ≤ f1.length + 1 → f2'.length ≤ f2.length + 1 → f3'.length ≤ f3.length + 1 → BInv w Z' b' ts2 sw → (∀ p ∈ Z, p ∈ Z') → c.Off Z' → 1 ≤ r →
      ts2[r]? = some ⟨Str.ofString "app", [], so, .i d⟩ → (ts2 = ts ∨ ts2 = ts ++ [⟨Str.ofString "app", [], so, .i d⟩]) → Q (.int r tr) { s with heap := h', toks := tk' }) :
    wpAny (model PySem.Challenge.rw_nz0152_01.row.prog w) { handled := none, depth := dp, frames := some (env :: outer), guards := gd, units := un } (call (.ref 221) [.ref c.bk, .str name tn, .int so tso]) Q E s := by
  have hfn : ∀ p ∈ xs ++ bankLed w.params c b Z, p.1 ≠ c.fn := fun p hp => (List.mem_append.mp hp).elim (fun h => (xo p h).1) (bank_ne BS.off (.head _) (fun q hq => BS.z q hq _ (.head _)) p)
  have hfa : ∀ p ∈ xs ++ bankLed w.params c b Z, p.1 ≠ c.fa := fun p hp => (List.mem_append.mp hp).elim (fun h => (xo p h).2.1) (bank_ne BS.off (.tail _ (.head _)) (fun q hq => BS.z q hq _ (.tail _ (.head _))) p)
  have hfr : ∀ p ∈ xs ++ bankLed w.params c b Z, p.1 ≠ c.fr := fun p hp => (List.mem_append.mp hp).elim (fun h => (xo p h).2.2) (bank_ne BS.off (.tail _ (.tail _ (.head _))) (fun q hq => BS.z q hq _ (.tail _ (.tail _ (.head _)))) p)
  have b1 : @Ne Nat c.fn c.bk := BS.off.bk _ (.head _)
  have b2 : @Ne Nat c.fn c.bd := BS.off.bd _ (.head _)
  have b3 : @Ne Nat c.fa c.bk := BS.off.bk _ (.tail _ (.head _))
  have b4 : @Ne Nat c.fa c.bd := BS.off.bd _ (.tail _ (.head _))
  have b5 : @Ne Nat c.fr c.bk := BS.off.bk _ (.tail _ (.tail _ (.head _)))
  have b6 : @Ne Nat c.fr c.bd := BS.off.bd _ (.tail _ (.tail _ (.head _)))
  obtain ⟨of1, of2⟩ := OF
  refine wpAny_call ?_
  k_dflt (refine' code_def ?k1 ?k2 ?k3 ?k4 ?k5 ?kA ?kF ?kK ?k6 ?k7 ?k8 ?k9 ?kB ?_ ?c2 ?c3 ?c4 ?c5)
  case kA => exact rfl
  case kF => exact hf
  case kK => exact hk
  case k1 => exact B
  case k2 => exact F
  case k3 => exact X
  case k4 => exact N
  case k5 => exact T
  case k6 => k_is
  case k7 => k_is
  case k8 => ktr_room
  case k9 => exact BindsTo.of_eq rfl
  case c5 => decide
  case kB => exact locs rfl
  case c2 => exact rfl
  case c3 => exact rfl
  case c4 => exact rfl
  intro g' L' h' FG' F' N' B' X' T'
  dsimp only
  dsimp only [List.cons_append] at N'
  have N2 := nc N' (nc N' N' (.tail _ (.tail _ (.tail _ (List.mem_append_right _ (.head _)))))) (.tail _ (.tail _ (.tail _ (List.mem_append_right _ (.tail _ (.head _))))))
  clear N'
  obtain ⟨W, hW⟩ : ∃ W, xs ++ bankLed w.params c b Z = W := ⟨_, rfl⟩
  rw [hW] at N2 hfn hfa hfr
  try k_fold
  k_steps
  all_goals (try delta Stop)
  rename Fr g' L' _ _ => F9
  rename News g' L' _ _ => N9
  subst hW
  have lW := allLt_mem lDk.2.2.2.2.2
  have hb : ∀ p ∈ bankLed w.params c b Z, @LT.lt Nat _ p.1 Dk := fun p hp => lW p (List.mem_append_right _ hp)
  have ZO0 : c.Off ((Dk, tupO []) :: Z) := BA.Off.cons ZO ⟨hb (c.bk, _) (by k_mem), hb (c.bd, _) (by k_mem), hb (c.sn, _) (by k_mem), hb (c.sw, _) (by k_mem), hb (c.to, _) (by k_mem), hb (c.ta, _) (by k_mem), hb (c.ts, _) (by k_mem), hb (c.td, _) (by k_mem), hb (c.nu, _) (by k_mem), hb (c.bv, _) (by k_mem)⟩
  have ha0 : ∀ x ∈ (c.fn, LO f1 n1) :: (c.fa, LO f2 n2) :: (c.fr, LO f3 n3) :: xs, Dk ≠ x.1 := all_cons (Nat.ne_of_gt lDk.2.2.1) (all_cons (Nat.ne_of_gt lDk.2.2.2.1) (all_cons (Nat.ne_of_gt lDk.2.2.2.2.1) (fun p hp => Nat.ne_of_gt (lW p (List.mem_append_left _ hp)))))
  refine' make_x (xs := (c.fn, LO (f1 ++ [.str name tn]) (n1 + 1)) :: (c.fa, LO (f2 ++ [.ref Dk2]) (n2 + 1)) :: (c.fr, LO (f3 ++ [.int so tso]) (n3 + 1)) :: xs) (Z := (Dk, tupO []) :: Z) (al := []) (dk := .i (((f1 ++ [Value.str name tn]).length : Nat) - 1)) B' F9 X' T' rfl rfl ?a1 ?a2 ?N ?BS (I.mono fun p hp => .tail _ hp) O ?ZO ?hop ?hal ?hdk hl ?ret
  case hal => exact ⟨_, _, rfl, .head _, .nil⟩
  case hdk => exact ⟨_, rfl⟩
  case hop => decide +kernel
  case a1 => exact dle hdp rfl
  case a2 => exact ule hun rfl
  case N =>
    exact news_sub N9 (sub_cons (by k_mem) (sub_cons (by k_mem) (sub_cons (by k_mem) (led_more (by k_mem) (by k_all)))))
  case BS =>
    refine BS.to rfl ?_ ?_
    · refine all_cons (fun us => lo_no_tup) (all_cons (fun us => lo_no_tup) (all_cons (fun us => lo_no_tup) (fun p hp => BS.nt p (.tail _ (.tail _ (.tail _ hp))))))
    · intro p hp
      rcases List.mem_cons.mp hp with rfl | hp
      · right
        exact ha0
      · exact .inl hp
  case ZO => exact ZO0
  case ret =>
    intro h9 tk9 b9 Z9 ts9 r9 tr9 F9 N9 BS9 I9 zs9 ZO9 r1 r2 r3
    dsimp only
    k_steps
    all_goals (try delta Stop)
    rename Fr h₀ L _ _ => F8
    rename News h₀ L _ _ => N8
    exact ret _ _ b9 Z9 ts9 r9 tr9 _ _ _ _ _ _ _ F8 N8 BS9 (by simp) (by simp) (by simp) I9 (fun p hp => zs9 p (.tail _ hp)) ZO9 r1 r2 (r3.imp id fun h => h.1)
end
end
section
open PySem PySem.W PySem.Calls PyProof.Rows
set_option hygiene false in
local macro_rules | `(tactic| walk_at "call ref") => `(tactic| with_reducible first | refine st_298 ?_ | refine st_583 ?_)
theorem head_of {h₀ h : Heap} {L a : Addr} {o : Obj} {W : List (Addr × Obj)} (_ : News h₀ L h ((a, o) :: W)) : ∃ z, z = a := ⟨a, rfl⟩
section
variable {w : World} {mean : ExcName → Option Value} {mg mb : Str → Option Value} {dp un : Nat} {gd : Option (List Code)} {env : Env} {outer : List Env} {A₀ : Around} {base h₀ : Heap} {L : Addr} {m : Str → Option Value} {s : Shared} {Q E : Value → Shared → Prop}
    {c : BA} {b : BSt} {xs Z : List (Addr × Obj)} {ts : List Tm} {sw : List Int} {t1 t2 : Tok}
set_option maxHeartbeats 20000000 in
theorem num_c (B : Below A₀ base outer h₀) (F : Fr h₀ L s.heap m) (X : (heap w.params).In h₀) (T : Top view (looseW view []) mean mg mb h₀)
    (hf : env.frame = some L) (hk : env.scope.kind = .function) (hdp : dp ≤ 440) (hun : un ≤ 470)
    (N : News h₀ L s.heap (xs ++ bankLed w.params c b Z)) (BS : Beside c xs Z) (I : BInv w Z b ts sw) (O : c.Ord) (ZO : c.Off Z) (hl : ts.length ≤ 900) (hl2 : sw.length ≤ 800)
    (ret : ∀ h' tk' b' Z' ts2 sw' (r : Nat) tr (j : Nat) d, Fr h₀ L h' m → News h₀ L h' (xs ++ bankLed w.params c b' Z') → Beside c xs Z' → BInv w Z' b' ts2 sw' → (∀ p ∈ Z, p ∈ Z') → c.Off Z' → sw <+: sw' → sw'.length ≤ sw.length + 1 → sw'[j]? = some 4 → 3 ≤ j → 1 ≤ r →
      ts2[r]? = some ⟨Str.ofString "bvnum", [], j, .i d⟩ → (ts2 = ts ∨ ts2 = ts ++ [⟨Str.ofString "bvnum", [], j, .i d⟩]) → Q (.int r tr) { s with heap := h', toks := tk' }) :
    wpAny (model PySem.Challenge.rw_nz0152_01.row.prog w) { handled := none, depth := dp, frames := some (env :: outer), guards := gd, units := un } (call (.ref 604) [.ref c.bk, .int 22 t1, .int 4 t2]) Q E s := by
  refine wpAny_call ?_
  k_dflt (refine' code_def ?k1 ?k2 ?k3 ?k4 ?k5 ?kA ?kF ?kK ?k6 ?k7 ?k8 ?k9 ?kB ?_ ?c2 ?c3 ?c4 ?c5)
  case kA => exact rfl
  case kF => exact hf
  case kK => exact hk
  case k1 => exact B
  case k2 => exact F
  case k3 => exact X
  case k4 => exact N
  case k5 => exact T
  case k6 => k_is
  case k7 => k_is
  case k8 => ktr_room
  case k9 => exact BindsTo.of_eq rfl
  case c5 => decide
  case kB => exact locs rfl
  case c2 => exact rfl
  case c3 => exact rfl
  case c4 => exact rfl
  intro g' L' h' FG' F' N' B' X' T'
  dsimp only
  have N2 := nc N' (nc N' N' (List.mem_append_right _ (.head _))) (List.mem_append_right _ (.tail _ (.head _)))
  clear N'
  obtain ⟨W, hW⟩ : ∃ W, xs ++ bankLed w.params c b Z = W := ⟨_, rfl⟩
  rw [hW] at N2
  try k_fold
  k_steps
  all_goals (try delta Stop)
  rename Fr g' L' _ _ => F9
  rename News g' L' _ _ => N9
  subst hW
  refine' sort_x (xs := xs) (Z := Z) (b := b) B' ?F X' T' rfl rfl ?a1 ?a2 ?N BS I O ZO ?b1 ?b2 ?b3 fun h5 tk5 b5 sw5 j tj F5 N5 I5 p1 p2 p3 p4 => ?_
  case F => exact F9
  case a1 => exact dle hdp rfl
  case a2 => exact ule hun rfl
  case N => exact fun p hp => N9 p (.tail _ (.tail _ hp))
  case b1 => decide
  case b2 => decide
  case b3 => omega
  clear F9 N9
  have N6 := nc N5 (nc N5 N5 (List.mem_append_right _ (.head _))) (List.mem_append_right _ (.tail _ (.head _)))
  obtain ⟨W, hW⟩ : ∃ W, xs ++ bankLed w.params c b5 Z = W := ⟨_, rfl⟩
  clear N5
  rw [hW] at N6
  dsimp only
  k_steps
  all_goals (try delta Stop)
  rename Fr g' L' _ _ => F9
  rename News g' L' _ _ => N9
  subst hW
  have lW := allLt_mem lDk.2.2
  have hb : ∀ p ∈ bankLed w.params c b5 Z, @LT.lt Nat _ p.1 Dk := fun p hp => lW p (List.mem_append_right _ hp)
  have ZO0 : c.Off ((Dk, tupO []) :: Z) := BA.Off.cons ZO ⟨hb (c.bk, _) (by k_mem), hb (c.bd, _) (by k_mem), hb (c.sn, _) (by k_mem), hb (c.sw, _) (by k_mem), hb (c.to, _) (by k_mem), hb (c.ta, _) (by k_mem), hb (c.ts, _) (by k_mem), hb (c.td, _) (by k_mem), hb (c.nu, _) (by k_mem), hb (c.bv, _) (by k_mem)⟩
  have ha0 : ∀ x ∈ xs, Dk ≠ x.1 := fun p hp => Nat.ne_of_gt (lW p (List.mem_append_left _ hp))
  refine' make_x (xs := xs) (b := b5) (Z := (Dk, tupO []) :: Z) (al := []) (dk := .i 6) B' F9 X' T' rfl rfl ?a1 ?a2 ?N ?BS (I5.mono fun p hp => .tail _ hp) O ZO0 ?hop ?hal ?hdk hl ?ret
  case hal => exact ⟨_, _, rfl, .head _, .nil⟩
  case hdk => exact ⟨_, rfl⟩
  case hop => decide +kernel
  case a1 => exact dle hdp rfl
  case a2 => exact ule hun rfl
  case N =>
    exact news_sub N9 (led_more (by k_mem) (by k_all))
  case BS =>
    refine BS.to rfl BS.nt ?_
    intro p hp
    rcases List.mem_cons.mp hp with rfl | hp
    · right
      exact ha0
    · exact .inl hp
  case ret =>
    intro h9 tk9 b9 Z9 ts9 r9 tr9 F9 N9 BS9 I9 zs9 ZO9 r1 r2 r3
    dsimp only
    k_steps
    all_goals (try delta Stop)
    rename Fr h₀ L _ _ => F8
    rename News h₀ L _ _ => N8
    exact ret _ _ b9 Z9 ts9 sw5 r9 tr9 j _ F8 N8 BS9 I9 (fun p hp => zs9 p (.tail _ hp)) ZO9 p1 p2 p3 p4 r1 r2 (r3.imp id fun h => h.1)
end
end
section
open PySem PySem.W PySem.Calls PyProof.Rows
theorem BS_W {P : Params} {c : BA} {b : BSt} {XS xs Z : List (Addr × Obj)} {a : Addr} {o : Obj} (BS : Beside c XS Z) (ha : (a, o) ∈ XS) (hx : ∀ p ∈ xs, p.1 ≠ a) : ∀ p ∈ xs ++ bankLed P c b Z, p.1 ≠ a :=
  fun p hp => (List.mem_append.mp hp).elim (hx p) (bank_ne BS.off ha (fun q hq => BS.z q hq _ ha) p)
theorem not_op_app : ¬ isOp (Str.ofString "app") := by
  intro h
  rcases h with h | h | h | h <;> exact absurd h (by decide)
theorem Beside.to2 {c : BA} {xs xs' Z Z' : List (Addr × Obj)} (x : Beside c xs Z) (g : ∀ p ∈ xs', ∃ q ∈ xs, q.1 = p.1) (nt : ∀ p ∈ xs', ∀ us, p.2 ≠ tupO us) (hz : ∀ p ∈ Z', p ∈ Z ∨ ∀ x ∈ xs, p.1 ≠ x.1) : Beside c xs' Z' := by
  have l : ∀ {f : Addr → Prop}, (∀ p ∈ xs, f p.1) → ∀ p ∈ xs', f p.1 := fun h p hp => by
    obtain ⟨q, hq, e⟩ := g p hp
    rw [← e]; exact h q hq
  refine ⟨nt, ⟨l (f := fun a => a ≠ c.bk) x.off.bk, l (f := fun a => a ≠ c.bd) x.off.bd, l (f := fun a => a ≠ c.sn) x.off.sn, l (f := fun a => a ≠ c.sw) x.off.sw, l (f := fun a => a ≠ c.to) x.off.to, l (f := fun a => a ≠ c.ta) x.off.ta, l (f := fun a => a ≠ c.ts) x.off.ts, l (f := fun a => a ≠ c.td) x.off.td, l (f := fun a => a ≠ c.nu) x.off.nu, l (f := fun a => a ≠ c.bv) x.off.bv⟩, fun p hp q hq => ?_⟩
  obtain ⟨r, hr, e⟩ := g q hq
  rw [← e]
  rcases hz p hp with h | h
  · exact x.z p h r hr
  · exact h r hr
theorem off_more {P : Params} {c : BA} {b : BSt} {Z : List (Addr × Obj)} {a : Addr} {o : Obj} (x : c.Off Z) (h : ∀ p ∈ bankLed P c b Z, p.1 ≠ a) : c.Off ((a, o) :: Z) :=
  ⟨all_cons (Ne.symm (h (c.bk, _) (by k_mem))) x.bk, all_cons (Ne.symm (h (c.bd, _) (by k_mem))) x.bd, all_cons (Ne.symm (h (c.sn, _) (by k_mem))) x.sn, all_cons (Ne.symm (h (c.sw, _) (by k_mem))) x.sw, all_cons (Ne.symm (h (c.to, _) (by k_mem))) x.to, all_cons (Ne.symm (h (c.ta, _) (by k_mem))) x.ta, all_cons (Ne.symm (h (c.ts, _) (by k_mem))) x.ts, all_cons (Ne.symm (h (c.td, _) (by k_mem))) x.td, all_cons (Ne.symm (h (c.nu, _) (by k_mem))) x.nu, all_cons (Ne.symm (h (c.bv, _) (by k_mem))) x.bv⟩
theorem off1_mem {D : Addr} : ∀ {l : List (Addr × Obj)}, LCg.Off1 D l → ∀ p ∈ l, @Ne Nat p.1 D
  | [], _, _, h => nomatch h
  | _ :: _, x, p, h => by
    rcases List.mem_cons.mp h with rfl | h
    · exact x.1
    · exact off1_mem x.2 p h
local macro_rules | `(tactic| walk_at "eval ListComp") => `(tactic| (k_here; lct_look; refine stop_in ?_))
local macro_rules | `(tactic| walk_at "CompSrcT") => `(tactic| (k_here; refine stop_in ?_))
local macro_rules | `(tactic| walk_at "CompSrc") => `(tactic| (k_here; refine stop_in ?_))
set_option hygiene false in
local macro_rules | `(tactic| walk_at "call ref") => `(tactic| with_reducible first | refine st_221 ?_ | refine st_583 ?_)
section
variable {w : World} {mean : ExcName → Option Value} {mg mb : Str → Option Value} {dp un : Nat} {gd : Option (List Code)} {env : Env} {outer : List Env} {A₀ : Around} {base h₀ g₀ : Heap} {L : Addr} {m : Str → Option Value} {s : Shared} {Q E : Value → Shared → Prop}
    {c : BA} {b : BSt} {xs Z : List (Addr × Obj)} {ts : List Tm} {sw : List Int} {fd cl pl nw : Nat} {ofd oF oS : Obj} {vs pv : List Value} {ns : List Int} {n pn : Nat} {bl k : Int} {tk0 tb tn tw : Tok} {f1 f2 f3 : List Value} {n1 n2 n3 : Nat} {nm : Str} {cS : Option Value}
    {fa : Addr} {cdx : Value} {name qual : Str} {params : Arguments} {body : List Stmt} {scope : Scope} {dV kV doc pm cdv ct oc9 : Value} {an od : Option Addr} {osl : Array (Option Value)} {qk : Flow → Shared → Prop} {L' : Addr}
noncomputable abbrev pXS (c : BA) (xs : List (Addr × Obj)) (fd cl pl L' : Nat) (ofd oF oS : Obj) (vs pv : List Value) (n pn : Nat) (f1 f2 f3 : List Value) (n1 n2 n3 : Nat) : List (Addr × Obj) :=
  (fd, ofd) :: (cl, LO vs n) :: (L' + 1, oF) :: (L' + 1 + 1, oS) :: (pl, LO pv pn) :: (c.fn, LO f1 n1) :: (c.fa, LO f2 n2) :: (c.fr, LO f3 n3) :: xs
noncomputable abbrev qXS (c : BA) (xs : List (Addr × Obj)) (fd cl pl L' : Nat) (ofd oF oS : Obj) (vs pv : List Value) (n pn : Nat) (f1 f2 f3 : List Value) (n1 n2 n3 : Nat) : List (Addr × Obj) :=
  (c.fn, LO f1 n1) :: (c.fa, LO f2 n2) :: (c.fr, LO f3 n3) :: (fd, ofd) :: (cl, LO vs n) :: (L' + 1, oF) :: (L' + 1 + 1, oS) :: (pl, LO pv pn) :: xs
theorem nt_q {kvs : List (Str × Value)} (D6 : ofd.IsDictOf (PySem.strKind PySem.Challenge.rw_nz0152_01.row.prog w) kvs) {cF : Option Value} (hoF : oF.data = .cell cF) (hoS : oS.data = .cell cS) (hx : ∀ p ∈ xs, ∀ us, p.2 ≠ tupO us) {l : Addr} : ∀ p ∈ qXS c xs fd cl pl l ofd oF oS vs pv n pn f1 f2 f3 n1 n2 n3, ∀ us, p.2 ≠ tupO us :=
  all_cons (fun us => lo_no_tup) (all_cons (fun us => lo_no_tup) (all_cons (fun us => lo_no_tup) (all_cons (dict_no_tup D6) (all_cons (fun us => lo_no_tup) (all_cons (cell_no_tup hoF) (all_cons (cell_no_tup hoS) (all_cons (fun us => lo_no_tup) hx)))))))
theorem nt_p {kvs : List (Str × Value)} (D6 : ofd.IsDictOf (PySem.strKind PySem.Challenge.rw_nz0152_01.row.prog w) kvs) {cF : Option Value} (hoF : oF.data = .cell cF) (hoS : oS.data = .cell cS) (hx : ∀ p ∈ xs, ∀ us, p.2 ≠ tupO us) {l : Addr} : ∀ p ∈ pXS c xs fd cl pl l ofd oF oS vs pv n pn f1 f2 f3 n1 n2 n3, ∀ us, p.2 ≠ tupO us :=
  all_cons (dict_no_tup D6) (all_cons (fun us => lo_no_tup) (all_cons (cell_no_tup hoF) (all_cons (cell_no_tup hoS) (all_cons (fun us => lo_no_tup) (all_cons (fun us => lo_no_tup) (all_cons (fun us => lo_no_tup) (all_cons (fun us => lo_no_tup) hx)))))))
set_option maxHeartbeats 20000000 in
theorem pool_bits (ho : (heap w.params).lookup 741 = some ⟨oc9, od, .func (fnOf name qual params body scope dV kV doc pm an cdv ct), osl⟩) (B1 : Below ({ handled := none, depth := dp, frames := some [], guards := gd, units := un } : Around) base [] h₀) (F1 : Fr h₀ L' s.heap m) (X1 : (heap w.params).In h₀) (T1 : Top view (looseW view []) mean mg mb h₀) (hdp : dp ≤ 410) (hun : un ≤ 300)
    (XB : (heap w.params).In base) (TB : Top view (looseW view []) mean mg mb base)
    (N1 : News h₀ L' s.heap (pXS c xs fd cl pl L' ofd oF oS vs pv n pn f1 f2 f3 n1 n2 n3 ++ bankLed w.params c b Z)) (BS : Beside c (pXS c xs fd cl pl L' ofd oF oS vs pv n pn f1 f2 f3 n1 n2 n3) Z) (hnd : ((pXS c xs fd cl pl L' ofd oF oS vs pv n pn f1 f2 f3 n1 n2 n3).map (·.1)).Nodup)
    (hoF : oF.data = .cell (some (.ref fd))) (hoS : oS.data = .cell cS) (I : BInv w Z b ts sw) (O : c.Ord) (ZO : c.Off Z) (OF : c.fn < c.fa ∧ c.fa < c.fr)
    (m1 : m (Str.ofString "bank") = some (.ref c.bk)) (m2 : m (Str.ofString "pool") = some (.ref pl)) (m3 : m (Str.ofString "name") = some (.str nm tn)) (m4 : m (Str.ofString "wide") = some (.int nw tw))
    (D6 : ofd.IsDictOf (PySem.strKind PySem.Challenge.rw_nz0152_01.row.prog w) (feedKvs cl k bl tk0 tb)) (hk0 : 0 ≤ k) (hk1 : k ≤ 10) (hI : IntsAre vs ns) (hns : ns.length ≤ 40) (hb0 : 0 ≤ bl) (hb1 : bl ≤ 10000) (hnw : 1 ≤ nw ∧ nw ≤ 10) (hts : ts.length ≤ 90) (hsw : sw.length ≤ 90) (hpv : pv.length ≤ 90) (hf1 : f1.length ≤ 90) (hf2 : f2.length ≤ 90) (hf3 : f3.length ≤ 90)
    (ret : ∀ h' tk' m' b' Z' ts' sw' ofd' oS' k' tk9 f1' f2' f3' n1' n2' n3' pn' v D8, Fr h₀ L' h' m' → (∀ y, y ≠ Str.ofString "worth" → m' y = m y) → News h₀ L' h' (pXS c xs fd cl pl L' ofd' oF oS' vs (pv ++ [v]) n pn' f1' f2' f3' n1' n2' n3' ++ bankLed w.params c b' Z') →
      Beside c (pXS c xs fd cl pl L' ofd' oF oS' vs (pv ++ [v]) n pn' f1' f2' f3' n1' n2' n3') Z' → oS'.data = .cell (some (.ref D8)) → BInv w Z' b' ts' sw' → c.Off Z' → (∀ p ∈ Z, p ∈ Z') → sw <+: sw' → sw'.length ≤ sw.length + 1 → (ts' = ts ∨ ∃ T : Tm, ts' = ts ++ [T] ∧ ¬ isOp T.op) →
      Ent Z' ts' sw' v → SomeBits Z' [v] → ofd'.IsDictOf (PySem.strKind PySem.Challenge.rw_nz0152_01.row.prog w) (feedKvs cl k' bl tk9 tb) → 0 ≤ k' → k' ≤ k + nw → f1'.length ≤ f1.length + 1 → f2'.length ≤ f2.length + 1 → f3'.length ≤ f3.length + 1 → qk .next { s with heap := h', toks := tk' }) :
    wpAny (model PySem.Challenge.rw_nz0152_01.row.prog w) (({ handled := none, depth := dp, frames := some [], guards := gd, units := un } : Around).deeper (envOfC qual scope L' fa cdx)) (execs (fb (body.drop 2)) (envOfC qual scope L' fa cdx)) qk E s := by
  k_dflt (apply body_at ho)
  case h' => k_is
  intro ho'
  clear ho
  have P0 : List.Pairwise (@Ne Nat) (fd :: cl :: (L' + 1) :: (L' + 1 + 1) :: pl :: c.fn :: c.fa :: c.fr :: xs.map (·.1)) := hnd
  have p0 := List.pairwise_cons.mp P0
  have p1 := List.pairwise_cons.mp p0.2
  have p2 := List.pairwise_cons.mp p1.2
  have p3 := List.pairwise_cons.mp p2.2
  have p4 := List.pairwise_cons.mp p3.2
  have p5 := List.pairwise_cons.mp p4.2
  have p6 := List.pairwise_cons.mp p5.2
  have p7 := List.pairwise_cons.mp p6.2
  have d1 : @Ne Nat fd cl := p0.1 _ mem0
  have d2 : @Ne Nat fd (L' + 1) := p0.1 _ mem1
  have d3 : @Ne Nat fd (L' + 1 + 1) := p0.1 _ mem2
  have d4 : @Ne Nat fd pl := p0.1 _ mem3
  have d5 : @Ne Nat fd c.fn := p0.1 _ mem4
  have d6 : @Ne Nat fd c.fa := p0.1 _ mem5
  have d7 : @Ne Nat fd c.fr := p0.1 _ mem6
  have e1 : @Ne Nat cl (L' + 1) := p1.1 _ mem0
  have e2 : @Ne Nat cl (L' + 1 + 1) := p1.1 _ mem1
  have e3 : @Ne Nat cl pl := p1.1 _ mem2
  have e4 : @Ne Nat cl c.fn := p1.1 _ mem3
  have e5 : @Ne Nat cl c.fa := p1.1 _ mem4
  have e6 : @Ne Nat cl c.fr := p1.1 _ mem5
  have g1 : @Ne Nat (L' + 1) (L' + 1 + 1) := p2.1 _ mem0
  have g2 : @Ne Nat (L' + 1) pl := p2.1 _ mem1
  have g3 : @Ne Nat (L' + 1) c.fn := p2.1 _ mem2
  have g4 : @Ne Nat (L' + 1) c.fa := p2.1 _ mem3
  have g5 : @Ne Nat (L' + 1) c.fr := p2.1 _ mem4
  have i1 : @Ne Nat (L' + 1 + 1) pl := p3.1 _ mem0
  have i2 : @Ne Nat (L' + 1 + 1) c.fn := p3.1 _ mem1
  have i3 : @Ne Nat (L' + 1 + 1) c.fa := p3.1 _ mem2
  have i4 : @Ne Nat (L' + 1 + 1) c.fr := p3.1 _ mem3
  have j1 : @Ne Nat pl c.fn := p4.1 _ mem0
  have j2 : @Ne Nat pl c.fa := p4.1 _ mem1
  have j3 : @Ne Nat pl c.fr := p4.1 _ mem2
  have l1 : @Ne Nat c.fn c.fa := p5.1 _ mem0
  have l2 : @Ne Nat c.fn c.fr := p5.1 _ mem1
  have o1 : @Ne Nat c.fa c.fr := p6.1 _ mem0
  have d8 : ∀ p ∈ xs, @Ne Nat p.1 fd := fun p hp => Ne.symm (p0.1 _ (in7 _ (List.mem_map_of_mem (f := fun x : Addr × Obj => x.1) hp)))
  have i5 : ∀ p ∈ xs, @Ne Nat p.1 (L' + 1 + 1) := fun p hp => Ne.symm (p3.1 _ (in4 _ (List.mem_map_of_mem (f := fun x : Addr × Obj => x.1) hp)))
  have j4 : ∀ p ∈ xs, @Ne Nat p.1 pl := fun p hp => Ne.symm (p4.1 _ (in3 _ (List.mem_map_of_mem (f := fun x : Addr × Obj => x.1) hp)))
  have l3 : ∀ p ∈ xs, @Ne Nat p.1 c.fn := fun p hp => Ne.symm (p5.1 _ (in2 _ (List.mem_map_of_mem (f := fun x : Addr × Obj => x.1) hp)))
  have o2 : ∀ p ∈ xs, @Ne Nat p.1 c.fa := fun p hp => Ne.symm (p6.1 _ (in1 _ (List.mem_map_of_mem (f := fun x : Addr × Obj => x.1) hp)))
  have r1 : ∀ p ∈ xs, @Ne Nat p.1 c.fr := fun p hp => Ne.symm (p7.1 _ (List.mem_map_of_mem (f := fun x : Addr × Obj => x.1) hp))
  clear P0 p0 p1 p2 p3 p4 p5 p6 p7
  dsimp only [pXS, List.cons_append] at N1
  have mb : ∀ p ∈ bankLed w.params c b Z, News h₀ L' s.heap [p] := fun p hp q hq => by
    rw [List.mem_singleton.mp hq]
    exact N1 p (.tail _ (.tail _ (.tail _ (.tail _ (.tail _ (.tail _ (.tail _ (.tail _ (List.mem_append_right _ hp)))))))))
  have N2 := nc (mb _ (.head _)) (nc (mb _ (.tail _ (.head _))) N1 (.head _)) (.head _)
  clear mb
  clear N1
  have hWS : ∀ p ∈ xs ++ bankLed w.params c b Z, p.1 ≠ (L' + 1 + 1 : Nat) := BS_W BS (.tail _ (.tail _ (.tail _ (.head _)))) i5
  have hWfd : ∀ p ∈ xs ++ bankLed w.params c b Z, p.1 ≠ fd := BS_W BS (.head _) d8
  have hWpl : ∀ p ∈ xs ++ bankLed w.params c b Z, p.1 ≠ pl := BS_W BS (.tail _ (.tail _ (.tail _ (.tail _ (.head _))))) j4
  obtain ⟨W, hW⟩ : ∃ W, xs ++ bankLed w.params c b Z = W := ⟨_, rfl⟩
  rw [hW] at N2 hWS hWfd hWpl
  have hw1 : (1 : Int) ≤ nw := Int.ofNat_le.mpr hnw.1
  have hw10 : (nw : Int) ≤ 10 := Int.ofNat_le.mpr hnw.2
  have hn10 := hnw.2
  simp only [List.drop, fb]
  delta kids gut
  dsimp only
  try k_fold
  k_steps
  all_goals (try delta Stop)
  rename Fr h₀ L' _ _ => F9
  rename News h₀ L' _ _ => N9
  refine LCg.CompSrc.range (n := nw) (by rfl) F9 (news_sub (news' := (fd, ofd) :: (cl, LO vs n) :: (L' + 1, oF) :: (L' + 1 + 1, oS) :: (pl, LO pv pn) :: (c.fn, LO f1 n1) :: (c.fa, LO f2 n2) :: (c.fr, LO f3 n3) :: (c.bk, instObj 677 c.bd) :: (c.bd, bankDict w.params c) :: W) N9 (by k_all)) (by assumption) (small_one (by omega) (by omega) (by omega) (by omega)) (by rw [rangeSize_nat, tn0]) (by rw [sizeLine_eq]; omega) ?_
  intro g'
  have b1 : @Ne Nat c.bk fd := fun e => hWfd (c.bk, instObj 677 c.bd) (by rw [← hW]; exact List.mem_append_right _ (.head _)) e
  have b2 : @Ne Nat c.bd fd := fun e => hWfd (c.bd, bankDict w.params c) (by rw [← hW]; exact List.mem_append_right _ (.tail _ (.head _))) e
  have hYr : ∀ p ∈ (L' + 1, oF) :: (L' + 1 + 1, oS) :: (pl, LO pv pn) :: (c.fn, LO f1 n1) :: (c.fa, LO f2 n2) :: (c.fr, LO f3 n3) :: (c.bk, instObj 677 c.bd) :: (c.bd, bankDict w.params c) :: W, p.1 ≠ fd :=
    (all_cons (Ne.symm d2) (all_cons (Ne.symm d3) (all_cons (Ne.symm d4) (all_cons (Ne.symm d5) (all_cons (Ne.symm d6) (all_cons (Ne.symm d7) (all_cons b1 (all_cons b2 hWfd))))))))
  refine draws_rest (k0 := k) (nw := nw) rfl B1 X1 T1 rfl rfl (dle hdp rfl) (ule hun rfl) rfl (fun _ => rfl) (.head _) hoF d1 hYr hI hns hb0 hb1 hnw.2 hk0 (by omega) (fun _ => trivial) ?fin nw 0 [] [] ofd k tk0 (by omega) .nil (fun _ h => nomatch h) rfl D6 hk0 (by omega)
  case fin =>
    intro ys bs ofd2 k2 tk2 hy hbs hl D2 k20 k21 D8 h7 tk7 F7 N7 off7
    have hbl : (bs.length : Int) = nw := congrArg _ hl
    clear F9 N9
    have oD := off1_mem off7
    have w1 : @Ne Nat (L' + 1 + 1) D8 := oD (L' + 1 + 1, oS) (by k_mem)
    have w2 : @Ne Nat fd (L' + 1 + 1) := d3
    have w3 : @Ne Nat cl (L' + 1 + 1) := e2
    have w5 : @Ne Nat pl (L' + 1 + 1) := Ne.symm i1
    have w6 : @Ne Nat c.fn (L' + 1 + 1) := Ne.symm i2
    have w7 : @Ne Nat c.fa (L' + 1 + 1) := Ne.symm i3
    have w8 : @Ne Nat c.fr (L' + 1 + 1) := Ne.symm i4
    have w9 : @Ne Nat c.bk (L' + 1 + 1) := fun e => hWS (c.bk, instObj 677 c.bd) (by rw [← hW]; exact List.mem_append_right _ (.head _)) e
    have w0 : @Ne Nat c.bd (L' + 1 + 1) := fun e => hWS (c.bd, bankDict w.params c) (by rw [← hW]; exact List.mem_append_right _ (.tail _ (.head _))) e
    dsimp only
    k_steps
    all_goals (try delta Stop)
    rename Fr h₀ L' _ _ => F9
    rename News h₀ L' _ _ => N9
    k_dflt (refine LCt.ListComp_T (F₀ := F9) (by with_unfolding_all rfl) (by decide) (by rfl) (by decide) (by rfl) ?_)
    k_steps
    all_goals (try delta Stop)
    rename Fr h₀ L' _ _ => F8
    rename News h₀ L' _ _ => N8
    obtain ⟨oS', hoS', NE⟩ : ∃ oS', oS'.data = .cell (some (.ref D8)) ∧ News h₀ L' _ ((L' + 1 + 1, oS') :: (D8, LO ys ys.length) :: (fd, ofd2) :: (cl, LO vs n) :: (L' + 1, oF) :: (pl, LO pv pn) :: (c.fn, LO f1 n1) :: (c.fa, LO f2 n2) :: (c.fr, LO f3 n3) :: (c.bk, instObj 677 c.bd) :: (c.bd, bankDict w.params c) :: W) := ⟨_, by assumption, news_sub N8 (by k_all)⟩
    refine LCt.CompSrcT.range (n := nw) (by rfl) F8 NE (by assumption) (small_one (by omega) (by omega) (by omega) (by omega)) (by rw [rangeSize_nat, tn0]) (by rw [sizeLine_eq]; omega) ?_
    intro g'
    refine' kci_range (bitG bs) (fun k' t' I' oI' C' oC' D' m' ys' l' h' tk' E' hlo' hhi' hI' hC' hx' F' N' off' ne' mk' => ?zturn) ?zfin ?zhg
    case zhg => intro l k; dsimp only [bitG]; split <;> simp
    case zturn =>
      rw [Int.zero_add] at hhi'
      obtain ⟨tb', hget⟩ := ints_at hy hlo' (by rw [hl]; exact hhi')
      exact some_turn F' N' (.head _) (.tail _ (.head _)) hoS' hI' hC' hx' off' ne' hlo' (Int.lt_of_lt_of_le hhi' (Int.le_trans hw10 (by decide))) hget (fun _ => trivial) rfl
    case zfin =>
      intro us hus hul D9 h6 tk6 F6 N6 off6
      have hfw := fold_worth hbs bs.length (Nat.le_refl _)
      rw [List.take_length, hl] at hfw
      clear F8 N8
      dsimp only
      k_steps
      all_goals (try delta Stop)
      rename Fr h₀ L' _ _ => F8
      rename News h₀ L' _ _ => N8
      subst hW
      have hDb : ∀ p ∈ bankLed w.params c b Z, p.1 ≠ D8 := fun p hp => oD p (.tail _ (.tail _ (.tail _ (.tail _ (.tail _ (.tail _ (.tail _ (.tail _ (.tail _ (.tail _ (List.mem_append_right _ hp)))))))))))
      have ZO2 : c.Off ((D8, LO ys ys.length) :: Z) := off_more ZO hDb
      have BS2 : Beside c ((c.fn, LO f1 n1) :: (c.fa, LO f2 n2) :: (c.fr, LO f3 n3) :: (fd, ofd2) :: (cl, LO vs n) :: (L' + 1, oF) :: (L' + 1 + 1, oS') :: (pl, LO pv pn) :: xs) ((D8, LO ys ys.length) :: Z) := BS.to2 (all_cons (⟨_, mem5, rfl⟩) (all_cons (⟨_, mem6, rfl⟩) (all_cons (⟨_, mem7, rfl⟩) (all_cons (⟨_, mem0, rfl⟩) (all_cons (⟨_, mem1, rfl⟩) (all_cons (⟨_, mem2, rfl⟩) (all_cons (⟨_, mem3, rfl⟩) (all_cons (⟨_, mem4, rfl⟩) (fun p hp => ⟨p, in8 p hp, rfl⟩))))))))) (nt_q D2 hoF hoS' fun p hp => BS.nt p (in8 p hp)) (all_cons (.inr (all_cons (Ne.symm (oD (fd, ofd2) mem0)) (all_cons (Ne.symm (oD _ mem1)) (all_cons (Ne.symm (oD _ mem2)) (all_cons (Ne.symm (oD _ mem3)) (all_cons (Ne.symm (oD _ mem4)) (all_cons (Ne.symm (oD _ mem5)) (all_cons (Ne.symm (oD _ mem6)) (all_cons (Ne.symm (oD _ mem7)) (fun x hx => Ne.symm (oD x (in10 x (List.mem_append_left _ hx))))))))))))) fun p hp => .inl hp)
      refine' sort_x (xs := (c.fn, LO f1 n1) :: (c.fa, LO f2 n2) :: (c.fr, LO f3 n3) :: (fd, ofd2) :: (cl, LO vs n) :: (L' + 1, oF) :: (L' + 1 + 1, oS') :: (pl, LO pv pn) :: xs) (Z := (D8, LO ys ys.length) :: Z) (b := b) B1 F8 X1 T1 rfl rfl ?za1 ?za2 ?zN BS2 (I.mono fun p hp => .tail _ hp) O ZO2 ?zb1 ?zb2 ?zb3 fun h5 tk5 b5 sw5 j tj F5 N5 I5 p1 p2 p3 p4 => ?_
      case za1 => exact dle hdp rfl
      case za2 => exact ule hun rfl
      case zN => exact sub_news N8 (sub_cons (by k_mem) (sub_cons (by k_mem) (sub_cons (by k_mem) (sub_cons (by k_mem) (sub_cons (by k_mem) (sub_cons (by k_mem) (sub_cons (by k_mem) (sub_cons (by k_mem) (led_more (by k_mem) (by k_all))))))))))
      case zb1 => omega
      case zb2 => omega
      case zb3 => omega
      clear F8 N8
      have mb5 : ∀ p ∈ bankLed w.params c b5 ((D8, LO ys ys.length) :: Z), News h₀ L' h5 [p] := fun p hp q hq => by
        rw [List.mem_singleton.mp hq]
        exact N5 p (List.mem_append_right _ hp)
      have N6 := nc (mb5 _ (.head _)) (nc (mb5 _ (.tail _ (.head _))) N5 (.head _)) (.head _)
      clear N5 mb5
      dsimp only [List.cons_append] at N6
      obtain ⟨W, hW⟩ : ∃ W, xs ++ bankLed w.params c b5 ((D8, LO ys ys.length) :: Z) = W := ⟨_, rfl⟩
      rw [hW] at N6
      dsimp only
      k_steps
      all_goals (try delta Stop)
      rename Fr h₀ L' _ _ => F8
      rename News h₀ L' _ _ => N8
      subst hW
      have xo9 : ∀ p ∈ (fd, ofd2) :: (cl, LO vs n) :: (L' + 1, oF) :: (L' + 1 + 1, oS') :: (pl, LO pv pn) :: xs, p.1 ≠ c.fn ∧ p.1 ≠ c.fa ∧ p.1 ≠ c.fr :=
        (all_cons (⟨d5, d6, d7⟩) (all_cons (⟨e4, e5, e6⟩) (all_cons (⟨g3, g4, g5⟩) (all_cons (⟨i2, i3, i4⟩) (all_cons (⟨j1, j2, j3⟩) (fun p hp => ⟨l3 p hp, o2 p hp, r1 p hp⟩))))))
      refine' fresh_c (xs := (fd, ofd2) :: (cl, LO vs n) :: (L' + 1, oF) :: (L' + 1 + 1, oS') :: (pl, LO pv pn) :: xs) (Z := (D8, LO ys ys.length) :: Z) (b := b5) B1 ?zF X1 T1 rfl rfl ?zc1 ?zc2 ?zM BS2 I5 O ZO2 OF xo9 ?zc3 ?zc4 ?zc5 ?zc6 fun h4 tk4 b6 Z6 ts6 r6 tr6 f1' f2' f3' n1' n2' n3' d9 F5 N5 BS6 lf1 lf2 lf3 I6 zz6 ZO6 r61 r62 r63 => ?_
      case zF => exact F8
      case zc1 => exact dle hdp rfl
      case zc2 => exact ule hun rfl
      case zM => exact fun p hp => N8 p (.tail _ (.tail _ hp))
      case zc3 => omega
      case zc4 => omega
      case zc5 => omega
      case zc6 => omega
      clear F8 N8
      have q1 : @Ne Nat fd pl := d4
      have q2 : @Ne Nat cl pl := e3
      have q3 : @Ne Nat (L' + 1) pl := g2
      have q4 : @Ne Nat (L' + 1 + 1) pl := i1
      have q5 : @Ne Nat c.fn pl := Ne.symm j1
      have q6 : @Ne Nat c.fa pl := Ne.symm j2
      have q7 : @Ne Nat c.fr pl := Ne.symm j3
      have hW6 : ∀ p ∈ xs ++ bankLed w.params c b6 Z6, p.1 ≠ pl := BS_W BS6 (o := LO pv pn) (.tail _ (.tail _ (.tail _ (.tail _ (.tail _ (.tail _ (.tail _ (.head _)))))))) j4
      obtain ⟨W, hW⟩ : ∃ W, xs ++ bankLed w.params c b6 Z6 = W := ⟨_, rfl⟩
      dsimp only [List.cons_append] at N5
      rw [hW] at N5 hW6
      dsimp only
      k_steps
      all_goals (try delta Stop)
      rename Fr h₀ L' _ _ => F8
      rename News h₀ L' _ _ => N8
      simp only [hfw] at N8
      subst hW
      have lA := allLt_mem lLk.2.2.2.2.2.2.2.2
      have lB : ∀ p ∈ bankLed w.params c b6 Z6, p.1 ≠ Lk := fun p hp => Nat.ne_of_lt (lA p (List.mem_append_right _ hp))
      obtain ⟨tW, NW⟩ : ∃ tW, News h₀ L' _ [(Lk, LO [.int r6 tr6, .int nw tw, .ref D8, .int (worth bs) tW] 0)] := ⟨_, news_sub N8 (by k_all)⟩
      have NF : News h₀ L' _ (pXS c xs fd cl pl L' ofd2 oF oS' vs (pv ++ [.ref Lk]) n (pn + 1) f1' f2' f3' n1' n2' n3' ++ bankLed w.params c b6 ((Lk, LO [.int r6 tr6, .int nw tw, .ref D8, .int (worth bs) tW] 0) :: Z6)) := sub_news (nc NW N8 mem0) (sub_cons (by k_mem) (sub_cons (by k_mem) (sub_cons (by k_mem) (sub_cons (by k_mem) (sub_cons (by k_mem) (sub_cons (by k_mem) (sub_cons (by k_mem) (sub_cons (by k_mem) (led_more mem0 (by k_all))))))))))
      have BS9 : Beside c (pXS c xs fd cl pl L' ofd2 oF oS' vs (pv ++ [.ref Lk]) n (pn + 1) f1' f2' f3' n1' n2' n3') ((Lk, LO [.int r6 tr6, .int nw tw, .ref D8, .int (worth bs) tW] 0) :: Z6) := BS6.to2 (all_cons (⟨_, mem3, rfl⟩) (all_cons (⟨_, mem4, rfl⟩) (all_cons (⟨_, mem5, rfl⟩) (all_cons (⟨_, mem6, rfl⟩) (all_cons (⟨_, mem7, rfl⟩) (all_cons (⟨_, mem0, rfl⟩) (all_cons (⟨_, mem1, rfl⟩) (all_cons (⟨_, mem2, rfl⟩) (fun p hp => ⟨p, in8 p hp, rfl⟩))))))))) (nt_p D2 hoF hoS' fun p hp => BS.nt p (in8 p hp)) (all_cons (.inr (have ⟨z1, z2, z3, z4, z5, z6, z7, z8, _⟩ := lLk; all_cons (Nat.ne_of_gt z1) (all_cons (Nat.ne_of_gt z2) (all_cons (Nat.ne_of_gt z3) (all_cons (Nat.ne_of_gt z4) (all_cons (Nat.ne_of_gt z5) (all_cons (Nat.ne_of_gt z6) (all_cons (Nat.ne_of_gt z7) (all_cons (Nat.ne_of_gt z8) (fun x hx => Nat.ne_of_gt (lA x (List.mem_append_left _ hx)))))))))))) fun p hp => .inl hp)
      have EB9 : EntBits ((Lk, LO [.int r6 tr6, .int nw tw, .ref D8, .int (worth bs) tW] 0) :: Z6) nw (.ref D8) (.int (worth bs) tW) := .inr ⟨D8, ys, ys.length, bs, tW, rfl, .tail _ (zz6 _ (.head _)), hy, hbs, by omega, rfl, by omega, by omega⟩
      exact ret _ _ _ b6 _ ts6 sw5 ofd2 oS' k2 tk2 f1' f2' f3' n1' n2' n3' _ (.ref Lk) D8 F8 (fun y hyw => if_neg hyw) NF BS9 hoS' (I6.mono fun p hp => .tail _ hp) (off_more ZO6 lB) (fun p hp => .tail _ (zz6 p (.tail _ hp))) p1 p2 (r63.imp id fun h => ⟨_, h, not_op_app⟩)
        ⟨Lk, r6, tr6, nw, tw, _, _, 0, rfl, .head _, ⟨by omega, _, by simpa using r62, by show (0 : Int) ≤ (j : Int); omega, by show sw5[(j : Int).toNat]? = _; simpa using p3⟩, EB9⟩ ⟨Lk, _, _, _, _, 0, .head _, .head _, by simp⟩ D2 k20 (by omega) lf1 lf2 lf3
end
end
section
open PySem PySem.W PySem.Calls PyProof.Rows
theorem back0F {h₀ h₁ h : Heap} {L : Addr} {m : Str → Option Value} (T : KtsTurn [] h₀ h₁) (F : Fr h₁ L h m) : Fr h₀ L h m :=
  ⟨F.ns, fun b o e => F.keep b o (T.other b o e (by simp)), by rw [← T.size]; exact F.above⟩
theorem back0N {h₀ h₁ h : Heap} {L : Addr} {news : List (Addr × Obj)} (T : KtsTurn [] h₀ h₁) (N : News h₁ L h news) : News h₀ L h news := fun p hp => by
  obtain ⟨a1, a2, a3⟩ := N p hp
  refine ⟨a1, a2, ?_⟩
  cases e : h₀.get? p.1 with
  | none => rfl
  | some o => rw [T.other _ o e (by simp)] at a3; cases a3
/-- without an object that is no tuple and no list -/
theorem WF.drop {w : World} {c : BA} {fd cl pl kn wd : Nat} {bl : Int} {lap : Nat} {b : BSt} {Z : List (Addr × Obj)} {ts : List Tm} {sw : List Int} {ofd okn ow oI : Obj} {pv vs : List Value} {ks : List (List EK × Addr × Value)} {J : Addr} {h₀ h : Heap} {L : Addr} {n pn : Nat}
    (x : WF w c fd cl pl kn wd bl lap b Z ts sw ofd okn ow pv ks) (N : News h₀ L h (stepLed w.params c b fd cl pl kn wd ofd okn ow vs pv n pn Z)) (hJ : (J, oI) ∈ Z) (h1 : ∀ us, oI ≠ tupO us) (h2 : ∀ us q, oI ≠ LO us q) :
    ∃ Z', (∀ p ∈ Z', p ∈ Z) ∧ (∀ p ∈ Z', p.1 ≠ J) ∧ (∀ p ∈ Z, p.1 ≠ J → p ∈ Z') ∧ WF w c fd cl pl kn wd bl lap b Z' ts sw ofd okn ow pv ks := by
  have up : ∀ p ∈ Z, p ∈ stepLed w.params c b fd cl pl kn wd ofd okn ow vs pv n pn Z := fun p hp => .tail _ (.tail _ (.tail _ (.tail _ (.tail _ (bankLed_tail p hp)))))
  obtain ⟨Z', z1, z2, z3, z4⟩ := purge N up [(J, oI)] (fun p hp => by rw [List.mem_singleton.mp hp]; exact up _ hJ) (fun p hp => by rw [List.mem_singleton.mp hp]; exact h1)
  have keep : ∀ a us q, (a, LO us q) ∈ Z → (a, LO us q) ∈ Z' := fun a us q hm => z2 _ hm fun y hy e => by
    rw [List.mem_singleton.mp hy] at e
    have e1 := (N _ (up _ hm)).1
    have e2 := (N _ (up _ hJ)).1
    have e' : a = J := e
    subst e'
    rw [e1] at e2
    exact h2 us q (Option.some.inj e2).symm
  refine ⟨Z', z1, fun p hp => z3 p hp _ (.head _), fun p hp hn => z2 p hp fun y hy => by rw [List.mem_singleton.mp hy]; exact hn, x.ZO.sub z1, fun p hp => x.zfd p (z1 p hp), fun p hp => x.zpl p (z1 p hp), fun p hp => x.zkn p (z1 p hp), fun p hp => x.zwd p (z1 p hp), x.hfd, x.hwd, x.I.monoT z4, fun v hv => ?_, ?_, x.Ty, x.K, x.NU.monoT z4, x.sz⟩
  · obtain ⟨e, t, tt, wx, tw, x2, x3, q, g1, g2, g3, g4⟩ := x.hP v hv
    refine ⟨e, t, tt, wx, tw, x2, x3, q, g1, keep _ _ _ g2, g3, ?_⟩
    rcases g4 with g4 | ⟨a, bv, bn, bs, tx, k1, k2, k3⟩
    · exact .inl g4
    · exact .inr ⟨a, bv, bn, bs, tx, k1, keep _ _ _ k2, k3⟩
  · obtain ⟨e, x0, x1, x2, x3, q, g1, g2, g3⟩ := x.hsm
    exact ⟨e, x0, x1, x2, x3, q, g1, keep _ _ _ g2, g3⟩
set_option hygiene false in
local macro_rules | `(tactic| walk_at "call ref") => `(tactic| with_reducible first | refine st_736 ?_)
section
variable {w : World} {mean : ExcName → Option Value} {mg mb : Str → Option Value} {dp un : Nat} {gd : Option (List Code)} {env : Env} {outer : List Env} {A₀ : Around} {base h₀ g₀ : Heap} {L : Addr} {m : Str → Option Value} {s : Shared} {Q E : Value → Shared → Prop}
    {c : BA} {b : BSt} {Z : List (Addr × Obj)} {ts : List Tm} {sw : List Int} {fd cl pl kn wd : Nat} {ofd okn ow oF : Obj} {vs pv : List Value} {ns : List Int} {n pn lap : Nat} {ks : List (List EK × Addr × Value)} {bl great : Int} {tg : Tok}
    {fa : Addr} {cdx : Value} {name qual : Str} {params : Arguments} {body : List Stmt} {scope : Scope} {dV kV doc pm cdv ct oc9 : Value} {an od : Option Addr} {osl : Array (Option Value)} {qk : Flow → Shared → Prop} {L' : Addr}
set_option maxHeartbeats 20000000 in
theorem lap_body (ho : (heap w.params).lookup 741 = some ⟨oc9, od, .func (fnOf name qual params body scope dV kV doc pm an cdv ct), osl⟩) (B1 : Below ({ handled := none, depth := dp, frames := some [], guards := gd, units := un } : Around) base [] h₀) (F1 : Fr h₀ L' s.heap m) (X1 : (heap w.params).In h₀) (T1 : Top view (looseW view []) mean mg mb h₀) (hdp : dp ≤ 410) (hun : un ≤ 300)
    (XB : (heap w.params).In base) (TB : Top view (looseW view []) mean mg mb base)
    (N1 : News h₀ L' s.heap (stepLed w.params c b fd cl pl kn wd ofd okn ow vs pv n pn Z)) (hF : ((L' + 1 : Nat), oF) ∈ Z) (hoF : oF.data = .cell (some (.ref fd))) (O : c.Ord) (OX : fd < cl ∧ cl < c.bd ∧ c.bv < pl ∧ pl < wd ∧ wd < kn) (lo : (kn == sysModules) = false)
    (m1 : m (Str.ofString "world") = some (.ref wd)) (m2 : m (Str.ofString "great") = some (.int great tg)) (hI : IntsAre vs ns) (hns : ns.length ≤ 40) (hb0 : 0 ≤ bl) (hb1 : bl ≤ 10000) (hlap : lap ≤ 50) (WX : WF w c fd cl pl kn wd bl lap b Z ts sw ofd okn ow pv ks)
    (ret : ∀ h' tk' b' Z' ts' sw' ofd' okn' ow' pv' pn' ks', Fr h₀ L' h' m → News h₀ L' h' (stepLed w.params c b' fd cl pl kn wd ofd' okn' ow' vs pv' n pn' Z') → WF w c fd cl pl kn wd bl (lap + 1) b' Z' ts' sw' ofd' okn' ow' pv' ks' → (∀ p ∈ Z, p ∈ Z') → qk .next { s with heap := h', toks := tk' }) :
    wpAny (model PySem.Challenge.rw_nz0152_01.row.prog w) (({ handled := none, depth := dp, frames := some [], guards := gd, units := un } : Around).deeper (envOfC qual scope L' fa cdx)) (execs (fb (body.drop 8)) (envOfC qual scope L' fa cdx)) qk E s := by
  k_dflt (apply body_at ho)
  case h' => k_is
  intro ho'
  clear ho
  have N2 := nc N1 N1 (.tail _ (.tail _ (.tail _ (.tail _ (.tail _ (bankLed_tail _ hF))))))
  dsimp only [stepLed] at N2
  clear N1
  obtain ⟨W, hW⟩ : ∃ W, bankLed w.params c b Z = W := ⟨_, rfl⟩
  rw [hW] at N2
  simp only [List.drop, fb]
  delta kids gut
  dsimp only
  try k_fold
  k_steps
  all_goals (try delta Stop)
  rename Fr h₀ L' _ _ => F9
  rename News h₀ L' _ _ => N9
  subst hW
  refine' step (Z := Z) B1 ?zF X1 T1 XB TB (fun _ h => nomatch h) KtsTurn.refl rfl rfl ?z1 ?z2 ?zN O OX lo hI hns hb0 hb1 hlap WX fun h' tk' h₁ b' Z' ts' sw' ofd' okn' ow' pv' pn' ks' KT F2 B2 X2 T2 D2 N2 WX2 zz => ?_
  case zF => exact F9
  case z1 => exact dle hdp rfl
  case z2 => exact ule hun rfl
  case zN => exact fun p hp => N9 p (.tail _ hp)
  have F3 := back0F KT F2
  have N3 := back0N KT N2
  clear F2 N2 F9 N9 B2 X2 T2 D2 KT
  k_steps
  all_goals (try delta Stop)
  exact ret _ _ b' Z' ts' sw' ofd' okn' ow' pv' pn' ks' F3 N3 WX2 zz
end
end
section
open PySem PySem.W PySem.Calls PyProof.Rows
section
variable {w : World} {mean : ExcName → Option Value} {mg mb : Str → Option Value} {dp un : Nat} {gd : Option (List Code)} {env : Env} {outer : List Env} {A₀ : Around} {base h₀ g₀ : Heap} {L : Addr} {m : Str → Option Value} {s : Shared} {Q E : Value → Shared → Prop}
    {c : BA} {fd cl pl kn wd : Nat} {oF : Obj} {vs : List Value} {ns : List Int} {n : Nat} {bl great : Int} {tg : Tok}
    {fa : Addr} {cdx : Value} {name qual : Str} {params : Arguments} {body : List Stmt} {scope : Scope} {dV kV doc pm cdv ct oc9 : Value} {an od : Option Addr} {osl : Array (Option Value)} {qk : Flow → Shared → Prop} {L' : Addr}
theorem itR_no {x l : Int} : (∀ us, itR x l ≠ tupO us) ∧ ∀ us q, itR x l ≠ LO us q := by
  constructor
  · intro us h; have := congrArg Obj.cls h; simp [itR] at this
  · intro us q h; have := congrArg Obj.cls h; simp [itR] at this
theorem laps (ho : (heap w.params).lookup 741 = some ⟨oc9, od, .func (fnOf name qual params body scope dV kV doc pm an cdv ct), osl⟩) (B1 : Below ({ handled := none, depth := dp, frames := some [], guards := gd, units := un } : Around) base [] h₀) (X1 : (heap w.params).In h₀) (T1 : Top view (looseW view []) mean mg mb h₀) (hdp : dp ≤ 410) (hun : un ≤ 300)
    (XB : (heap w.params).In base) (TB : Top view (looseW view []) mean mg mb base) (hoF : oF.data = .cell (some (.ref fd))) (O : c.Ord) (OX : fd < cl ∧ cl < c.bd ∧ c.bv < pl ∧ pl < wd ∧ wd < kn) (lo : (kn == sysModules) = false) (hI : IntsAre vs ns) (hns : ns.length ≤ 40) (hb0 : 0 ≤ bl) (hb1 : bl ≤ 10000) {J : Addr} (hJ : kn < J) (hJL : @LT.lt Nat _ (L' + 1) J)
    (fin : ∀ h tk m', Fr h₀ L' h m' → qk .next { s with heap := h, toks := tk }) :
    ∀ k i, i + k = 9 → ∀ (m : Str → Option Value) b Z ts sw ofd okn ow pv pn ks, m (Str.ofString "world") = some (.ref wd) → m (Str.ofString "great") = some (.int great tg) → ((L' + 1 : Nat), oF) ∈ Z → (∀ p ∈ Z, p.1 ≠ J) → WF w c fd cl pl kn wd bl i b Z ts sw ofd okn ow pv ks →
      RangeRest PySem.Challenge.rw_nz0152_01.row.prog w (({ handled := none, depth := dp, frames := some [], guards := gd, units := un } : Around).deeper (envOfC qual scope L' fa cdx)) E h₀ (envOfC qual scope L' fa cdx) (Str.ofString "lap") (fb (body.drop 8)) qk s J 0 9 k i m (stepLed w.params c b fd cl pl kn wd ofd okn ow vs pv n pn Z)
  | 0, i, hi, m, b, Z, ts, sw, ofd, okn, ow, pv, pn, ks, m1, m2, hF, zJ, WX => RangeRest.zero fun h tk F _ => fin h tk _ F
  | k + 1, i, hi, m, b, Z, ts, sw, ofd, okn, ow, pv, pn, ks, m1, m2, hF, zJ, WX => by
    refine RangeRest.succ fun t h tk F N => ?_
    have WJ := WX.fresh (o := itR (0 + ((i + 1 : Nat) : Int)) ((9 : Nat) - ((i + 1 : Nat) : Int))) O OX hJ
    refine lap_body (n := n) (pn := pn) (great := great) (tg := tg) (Z := (J, itR (0 + ((i + 1 : Nat) : Int)) ((9 : Nat) - ((i + 1 : Nat) : Int))) :: Z) ho B1 F X1 T1 hdp hun XB TB (news_sub N (sub_cons mem1 (sub_cons mem2 (sub_cons mem3 (sub_cons mem4 (sub_cons mem5 (bank_more mem0 in6))))))) (.tail _ hF) hoF O OX lo ?_ ?_ hI hns hb0 hb1 (Nat.le_trans (Nat.le.intro hi) (by decide)) WJ fun h' tk' b' Z' ts' sw' ofd' okn' ow' pv' pn' ks' F' N' W' zz => ?_
    · show (if Str.ofString "world" = Str.ofString "lap" then _ else m (Str.ofString "world")) = _
      rw [if_neg (by decide)]; exact m1
    · show (if Str.ofString "great" = Str.ofString "lap" then _ else m (Str.ofString "great")) = _
      rw [if_neg (by decide)]; exact m2
    · obtain ⟨Z2, z1, z2, z3, W2⟩ := W'.drop (J := J) (n := n) (pn := pn') (vs := vs) N' (zz _ (.head _)) itR_no.1 itR_no.2
      obtain ⟨q1, q2, q3, q4, q5, q6⟩ := ox5 (oxs O OX) hJ
      refine ⟨h', tk', _, stepLed w.params c b' fd cl pl kn wd ofd' okn' ow' vs pv' n pn' Z2, rfl, F', news_sub N' (sub_cons (in5 _ (bank_tl _ (zz _ mem0))) (sub_cons mem0 (sub_cons mem1 (sub_cons mem2 (sub_cons mem3 (sub_cons mem4 fun p hp => in5 p (bank_sub z1 p hp))))))), ne_cons (Nat.ne_of_lt q1) (ne_cons (Nat.ne_of_lt q2) (ne_cons (Nat.ne_of_lt q3) (ne_cons (Nat.ne_of_lt q5) (ne_cons (Nat.ne_of_lt q4) (led_off O (.inr q6) z2))))), laps ho B1 X1 T1 hdp hun XB TB hoF O OX lo hI hns hb0 hb1 hJ hJL fin k (i + 1) ((Nat.add_right_comm i 1 k).trans hi) _ b' Z2 ts' sw' ofd' okn' ow' pv' pn' ks' ?_ ?_ (z3 _ (zz _ (.tail _ hF)) (Nat.ne_of_lt hJL)) z2 W2⟩
      · show (if Str.ofString "world" = Str.ofString "lap" then _ else m (Str.ofString "world")) = _
        rw [if_neg (by decide)]; exact m1
      · show (if Str.ofString "great" = Str.ofString "lap" then _ else m (Str.ofString "great")) = _
        rw [if_neg (by decide)]; exact m2
end
end
section
open PySem PySem.W PySem.Calls PyProof.Rows
theorem ld_builtE {M : Model} {A : Around} {E : Value → Shared → Prop} {s : Shared} {K : Frag} {h₀ : Heap} {L C : Addr} {m mg mb : Str → Option Value} {p : Program} {loose : List Str} {mean : ExcName → Option Value} {scope : Scope} {env : Env} {x : Str} {pos : Pos} {v : Value} {Q : Value → Shared → Prop}
    (F : Fr h₀ L s.heap m) (X : K.In h₀) (T : Top p loose mean mg mb h₀) (e : nsIn K mainGlobals x = some none) (hv : bootBuiltins x = some v) (hn : x ≠ "__name__") (h : Q v s) (hg : env.globals = mainGlobals := by rfl) (hb : env.builtins = builtinsNs := by rfl)
    (hk : (compEnv scope C env).scope.kind = .function := by rfl) (hx : (compEnv scope C env).kindOf x = some .globalImplicit := by rfl) (hd : (x == ("__debug__" : Str)) = false := by decide) :
    wpAny M A (eval (.Name x pos) (compEnv scope C env)) Q E s :=
  Name_function_global hk hx (loadGlobal_builtin (env := compEnv scope C env) (show s.heap.Ns env.globals mg from hg ▸ (T.keeps F.keep).g) (mg_none_of X T.g e) (show s.heap.Ns env.builtins mb from hb ▸ (T.keeps F.keep).b) ((T.builtins x hn).trans hv) h) hd
theorem right_of {a b : Nat} (_ : a < b) : ∃ z, z = b := ⟨b, rfl⟩
theorem nu_nil {w : World} {W : List (Addr × Obj)} {o : Obj} (x : o.IsDictOf (PySem.strKind PySem.Challenge.rw_nz0152_01.row.prog w) []) : NuIs PySem.Challenge.rw_nz0152_01.row.prog w W o [] := by
  obtain ⟨es, ep, h1, hd, _, hp, _⟩ := x
  have hl : es.toList = [] := by
    generalize es.toList = l at hp
    cases l with
    | nil => rfl
    | cons a r => cases hp
  exact ⟨h1, ⟨es, ep, hd, by rw [hl]; rfl⟩, fun _ h => (nomatch h), by simp⟩
noncomputable def GI (_ r : Value) : Prop := ∃ k t, r = .int k t
theorem gi_ints {vs ys : List Value} (x : Paired GI vs ys) : ∃ l, IntsAre ys l := by
  induction x with
  | nil => exact ⟨_, .nil⟩
  | cons a _ ih =>
    obtain ⟨k, t, rfl⟩ := a
    obtain ⟨l, h⟩ := ih
    exact ⟨_, .cons k t h⟩
theorem ints_mem {vs : List Value} {ns : List Int} (x : IntsAre vs ns) : ∀ v ∈ vs, ∃ k t, v = .int k t := by
  induction x with
  | nil => exact fun _ h => absurd h List.not_mem_nil
  | cons k t _ ih => exact all_cons ⟨_, _, rfl⟩ ih
local macro_rules | `(tactic| walk_at "eval ListComp") => `(tactic| ((with_reducible apply ListComp_rowsP); (case hfree => decide); (case hcell => decide); (case hkind => with_unfolding_all rfl); (case hnames => decide); (case hx => with_unfolding_all rfl); (case hs => intro _; with_unfolding_all rfl)))
theorem st_itc {M : Model} {A : Around} {s : Shared} {E : Value → Shared → Prop} {a x1 x2 x3 x4 x5 x6 x7 x8 x9} (h : Stop (wpAny M A (pyIter (.ref a)) (CompPost x1 x2 x3 x4 x5 x6 x7 x8 x9) E s)) : wpAny M A (pyIter (.ref a)) (CompPost x1 x2 x3 x4 x5 x6 x7 x8 x9) E s := h
theorem st_itl {M : Model} {A : Around} {s : Shared} {E : Value → Shared → Prop} {a x1 x2 x3 x4 x5 x6 x7 x8 x9} (h : Stop (wpAny M A (pyIter (.ref a)) (LoopAtV x1 x2 x3 x4 x5 x6 x7 x8 x9) E s)) : wpAny M A (pyIter (.ref a)) (LoopAtV x1 x2 x3 x4 x5 x6 x7 x8 x9) E s := h
set_option hygiene false in
local macro_rules | `(tactic| walk_at "exec For Name Call cons nil") => `(tactic| (k_here; (rename Fr _ _ _ _ => lF'); (with_unfolding_all refine' For_invVF lF' (by exact rfl) (by exact rfl) ?_; k_whole)))
set_option hygiene false in
local macro_rules | `(tactic| walk_at "pyIter ref") => `(tactic| with_reducible first | refine st_itc ?_ | refine st_itl ?_)
section
variable {w : World} {mean : ExcName → Option Value} {mg mb : Str → Option Value} {dp un : Nat} {gd : Option (List Code)} {env : Env} {outer : List Env} {A₀ : Around} {base h₀ g₀ : Heap} {L : Addr} {m : Str → Option Value} {s : Shared} {Q E : Value → Shared → Prop}
    {c : BA} {b : BSt} {Z : List (Addr × Obj)} {ts : List Tm} {sw : List Int} {fd cl pl sa : Nat} {ofd oF : Obj} {vs pv vs0 : List Value} {ns ns0 : List Int} {n pn : Nat} {bl k : Int} {tk0 tb : Tok}
    {fa : Addr} {cdx : Value} {name qual : Str} {params : Arguments} {body : List Stmt} {scope : Scope} {dV kV doc pm cdv ct oc9 : Value} {an od : Option Addr} {osl : Array (Option Value)} {qk : Flow → Shared → Prop} {L' : Addr}
set_option maxHeartbeats 20000000 in
theorem law_tail (ho : (heap w.params).lookup 741 = some ⟨oc9, od, .func (fnOf name qual params body scope dV kV doc pm an cdv ct), osl⟩) (B1 : Below ({ handled := none, depth := dp, frames := some [], guards := gd, units := un } : Around) base [] h₀) (F1 : Fr h₀ L' s.heap m) (X1 : (heap w.params).In h₀) (T1 : Top view (looseW view []) mean mg mb h₀) (hdp : dp ≤ 410) (hun : un ≤ 300)
    (XB : (heap w.params).In base) (TB : Top view (looseW view []) mean mg mb base)
    (N1 : News h₀ L' s.heap ((fd, ofd) :: (cl, LO vs n) :: (pl, LO pv pn) :: bankLed w.params c b Z)) (hF : ((L' + 1 : Nat), oF) ∈ Z) (hoF : oF.data = .cell (some (.ref fd))) (O : c.Ord) (OX : fd < cl ∧ cl < c.bd ∧ c.bv < pl)
    (m1 : m (Str.ofString "bank") = some (.ref c.bk)) (m2 : m (Str.ofString "pool") = some (.ref pl)) (m3 : m (Str.ofString "script") = some (.ref sa)) (hsl : h₀.IsList sa vs0.toArray) (hsi : IntsAre vs0 ns0) (hn0 : ns0.length ≤ 63)
    (hI : IntsAre vs ns) (hns : ns.length ≤ 40) (hb0 : 0 ≤ bl) (hb1 : bl ≤ 10000) (ZO : c.Off Z) (zfd : ∀ p ∈ Z, p.1 ≠ fd) (zpl : ∀ p ∈ Z, p.1 ≠ pl) (I : BInv w Z b ts sw) (hP : ∀ v ∈ pv, Ent Z ts sw v) (hsm : SomeBits Z pv) (nop : ∀ (i : Nat) T, 1 ≤ i → ts[i]? = some T → ¬ isOp T.op)
    (D6 : ofd.IsDictOf (PySem.strKind PySem.Challenge.rw_nz0152_01.row.prog w) (feedKvs cl k bl tk0 tb)) (hk0 : 0 ≤ k) (hk1 : k ≤ 10) (hpl : pv.length ≤ 10) (hts : ts.length ≤ 10) (hsw : sw.length ≤ 10)
    (fin : ∀ h' tk' m', Fr h₀ L' h' m' → qk (.ret (.bool true)) { s with heap := h', toks := tk' }) (hE : PassesOwn (model PySem.Challenge.rw_nz0152_01.row.prog w) (({ handled := none, depth := dp, frames := some [], guards := gd, units := un } : Around).deeper (envOfC qual scope L' fa cdx)) (envOfC qual scope L' fa cdx) E) :
    Shut (wpAny (model PySem.Challenge.rw_nz0152_01.row.prog w) (({ handled := none, depth := dp, frames := some [], guards := gd, units := un } : Around).deeper (envOfC qual scope L' fa cdx)) (execs (body.drop 6) (envOfC qual scope L' fa cdx)) qk E s) := by
  refine ⟨?_⟩
  revert hE
  k_dflt (apply body_at ho)
  case h' => k_is
  intro ho'
  clear ho
  intro hE
  have X1 := X1
  have T1 := T1
  have hn1 := hsi.length
  obtain ⟨W, hW⟩ : ∃ W, bankLed w.params c b Z = W := ⟨_, rfl⟩
  rw [hW] at N1
  simp only [List.drop]
  try k_fold
  k_steps
  all_goals (try delta Stop)
  rename Fr h₀ L' _ _ => F8
  rename News h₀ L' _ _ => N8
  rename IntsAre _ (List.take 3 ns0) => I3
  refine srcC_rel GI (by with_unfolding_all rfl) (News.isList N8 (by k_mem)) F8 N8 ?g2 ?g3 (by rw [I3.length, List.length_take]; exact Nat.le_trans (Nat.min_le_left _ _) (by decide))
  case g2 =>
    intro C v s₂ m₂ E' hv hn hm hk
    obtain ⟨k9, t9, rfl⟩ := ints_mem I3 v hv
    have F2 := F8.keeps hk
    clear N8 F8
    refine Call_ ?_
    k_dflt (refine ld_builtE F2 X1 T1 (by k_is) (by boot_by_name) (by decide) ?_)
    k_steps
    all_goals (try delta Stop)
    all_goals first | exact ⟨_, _, rfl⟩ | exact ⟨_, _, rfl, fun _ _ e => e⟩
  case g3 =>
    intro D9 n9 ys h9 tk9 F9 N9 P9 l9
    obtain ⟨l3, I9⟩ := gi_ints P9
    clear F8 N8
    k_steps
    all_goals (try delta Stop)
    rename Fr h₀ L' _ _ => F7
    rename News h₀ L' _ _ => N7
    rename fd < _ ∧ cl < _ ∧ pl < _ ∧ AllLt _ W => l1w
    obtain ⟨wd, ewd⟩ := right_of l1w.1
    subst ewd
    rename wd < _ ∧ fd < _ ∧ _ => l1k
    obtain ⟨kn, ekn⟩ := right_of l1k.1
    subst ekn
    rename (kn == sysModules) = false => lok
    rename Obj.IsDictOf (PySem.strKind PySem.Challenge.rw_nz0152_01.row.prog w) _ (strPairs _) => hdw
    rename Obj.IsDictOf (PySem.strKind PySem.Challenge.rw_nz0152_01.row.prog w) _ [] => hdk
    obtain ⟨tbf, thv, th, hwd⟩ : ∃ tbf thv th, Obj.IsDictOf (PySem.strKind PySem.Challenge.rw_nz0152_01.row.prog w) _ (worldKvs c pl kn 0 (.int thv th) tbf) := ⟨_, _, _, hdw⟩
    obtain ⟨x1, x2, x3⟩ := id OX
    have hZW : ∀ p ∈ Z, p ∈ W := by rw [← hW]; exact bankLed_tail
    have aw := allLt_mem l1w.2.2.2
    have ak := allLt_mem l1k.2.2.2.2
    have OX5 : fd < cl ∧ cl < c.bd ∧ c.bv < pl ∧ pl < wd ∧ wd < kn := ⟨x1, x2, x3, l1w.2.2.1, l1k.1⟩
    have NU0 : NuIs PySem.Challenge.rw_nz0152_01.row.prog w Z _ [] := nu_nil hdk
    have WF0 : WF w c fd cl pl kn wd bl 0 b Z ts sw ofd _ _ pv [] := ⟨ZO, zfd, zpl, fun p hp => Nat.ne_of_lt (ak p (hZW p hp)), fun p hp => Nat.ne_of_lt (aw p (hZW p hp)), ⟨k, tk0, tb, D6, hk0, by omega⟩, ⟨_, _, _, hwd⟩, I, hP, hsm, fun i T h1 h2 h3 => absurd h3 (nop i T h1 h2),
      ⟨fun k p h => absurd h (by simp [atKey]), fun i T h1 h2 h3 => absurd h3 (nop i T h2 h1)⟩, NU0, hpl, hts, hsw, Nat.le_refl _⟩
    subst hW
    have NL := news_sub (news' := stepLed w.params c b fd cl pl kn wd ofd _ _ vs pv n pn Z) N7 (by k_all)
    refine iter_rangeUnr (n := 9) (by rfl) (by assumption) (by decide) (by decide) F7 NL fun J hJ => laps (oF := oF) (great := 5000 + l3.sum) (unhid ho') B1 X1 T1 hdp hun XB TB hoF O OX5 lok hI hns hb0 hb1 (hJ (kn, _) (.tail _ (.tail _ (.tail _ (.head _))))) (hJ (L' + 1, oF) (.tail _ (.tail _ (.tail _ (.tail _ (.tail _ (bankLed_tail _ hF))))))) (fun h tk m' F => ?_) 9 0 rfl _ b Z ts sw ofd _ _ pv pn [] (by with_unfolding_all rfl) (by with_unfolding_all rfl) hF (fun p hp => Nat.ne_of_lt (hJ p (.tail _ (.tail _ (.tail _ (.tail _ (.tail _ (bankLed_tail _ hp)))))))) WF0
    dsimp only
    k_steps
    all_goals (try delta Stop)
    rename Fr h₀ L' _ _ => Fz
    exact fin _ _ _ Fz
end
end
section
open PySem PySem.W PySem.Calls PyProof.Rows
theorem off_more' {P : Params} {c : BA} {b : BSt} {Z Z0 : List (Addr × Obj)} {a : Addr} {o : Obj} (x : c.Off Z) (h : ∀ p ∈ bankLed P c b Z0, p.1 ≠ a) : c.Off ((a, o) :: Z) :=
  ⟨all_cons (Ne.symm (h (c.bk, _) (.head _))) x.bk, all_cons (Ne.symm (h (c.bd, _) (.tail _ (.head _)))) x.bd, all_cons (Ne.symm (h (c.sn, _) (.tail _ (.tail _ (.head _))))) x.sn, all_cons (Ne.symm (h (c.sw, _) (.tail _ (.tail _ (.tail _ (.head _)))))) x.sw, all_cons (Ne.symm (h (c.to, _) (.tail _ (.tail _ (.tail _ (.tail _ (.head _))))))) x.to, all_cons (Ne.symm (h (c.ta, _) (.tail _ (.tail _ (.tail _ (.tail _ (.tail _ (.head _)))))))) x.ta, all_cons (Ne.symm (h (c.ts, _) (.tail _ (.tail _ (.tail _ (.tail _ (.tail _ (.tail _ (.head _))))))))) x.ts, all_cons (Ne.symm (h (c.td, _) (.tail _ (.tail _ (.tail _ (.tail _ (.tail _ (.tail _ (.tail _ (.head _)))))))))) x.td, all_cons (Ne.symm (h (c.nu, _) (.tail _ (.tail _ (.tail _ (.tail _ (.tail _ (.tail _ (.tail _ (.tail _ (.head _))))))))))) x.nu, all_cons (Ne.symm (h (c.bv, _) (.tail _ (.tail _ (.tail _ (.tail _ (.tail _ (.tail _ (.tail _ (.tail _ (.tail _ (.head _)))))))))))) x.bv⟩
theorem nop_snoc {ts ts' : List Tm} {T : Tm} (h : ∀ (i : Nat) T, 1 ≤ i → ts[i]? = some T → ¬ isOp T.op) (hT : ¬ isOp T.op) (e : ts' = ts ∨ ts' = ts ++ [T]) : ∀ (i : Nat) T, 1 ≤ i → ts'[i]? = some T → ¬ isOp T.op := by
  rcases e with rfl | rfl
  · exact h
  · intro i T' hi hT'
    rcases Nat.lt_or_ge i ts.length with hlt | hge
    · rw [List.getElem?_append_left hlt] at hT'; exact h i T' hi hT'
    · rw [List.getElem?_append_right hge] at hT'
      cases q : i - ts.length with
      | zero =>
        rw [q] at hT'
        have e9 : T = T' := by simpa using hT'
        rw [← e9]
        exact hT
      | succ n => rw [q] at hT'; simp at hT'
theorem not_op_num : ¬ isOp (Str.ofString "bvnum") := by
  intro h
  rcases h with h | h | h | h <;> exact absurd h (by decide)
set_option hygiene false in
local macro_rules | `(tactic| walk_at "call ref") => `(tactic| with_reducible first | refine st_221 ?_ | refine st_583 ?_ | refine st_604 ?_)
set_option hygiene false in
local macro_rules | `(tactic| walk_at "execs cons") => `(tactic| with_reducible refine st_asgD ?_)
section
variable {w : World} {mean : ExcName → Option Value} {mg mb : Str → Option Value} {dp un : Nat} {gd : Option (List Code)} {env : Env} {outer : List Env} {A₀ : Around} {base h₀ g₀ : Heap} {L : Addr} {m : Str → Option Value} {s : Shared} {Q E : Value → Shared → Prop}
    {c : BA} {b : BSt} {xs Z : List (Addr × Obj)} {ts : List Tm} {sw : List Int} {fd cl pl sa : Nat} {ofd oF oS : Obj} {vs pv vs0 : List Value} {ns ns0 : List Int} {n pn : Nat} {bl k : Int} {tk0 tb : Tok} {f1 f2 f3 : List Value} {n1 n2 n3 : Nat} {cS : Option Value}
    {fa : Addr} {cdx : Value} {name qual : Str} {params : Arguments} {body : List Stmt} {scope : Scope} {dV kV doc pm cdv ct oc9 : Value} {an od : Option Addr} {osl : Array (Option Value)} {qk : Flow → Shared → Prop} {L' : Addr}
theorem bits4 : Bits [0, 1, 1, 0] := by unfold Bits; decide
set_option maxHeartbeats 20000000 in
theorem law_m3 (ho : (heap w.params).lookup 741 = some ⟨oc9, od, .func (fnOf name qual params body scope dV kV doc pm an cdv ct), osl⟩) (B1 : Below ({ handled := none, depth := dp, frames := some [], guards := gd, units := un } : Around) base [] h₀) (F1 : Fr h₀ L' s.heap m) (X1 : (heap w.params).In h₀) (T1 : Top view (looseW view []) mean mg mb h₀) (hdp : dp ≤ 410) (hun : un ≤ 300)
    (XB : (heap w.params).In base) (TB : Top view (looseW view []) mean mg mb base)
    (N1 : News h₀ L' s.heap (qXS c xs fd cl pl L' ofd oF oS vs pv n pn f1 f2 f3 n1 n2 n3 ++ bankLed w.params c b Z)) (BS : Beside c (qXS c xs fd cl pl L' ofd oF oS vs pv n pn f1 f2 f3 n1 n2 n3) Z) (hnd : ((qXS c xs fd cl pl L' ofd oF oS vs pv n pn f1 f2 f3 n1 n2 n3).map (·.1)).Nodup)
    (hoF : oF.data = .cell (some (.ref fd))) (hoS : oS.data = .cell cS) (I : BInv w Z b ts sw) (O : c.Ord) (ZO : c.Off Z) (OF : c.fn < c.fa ∧ c.fa < c.fr) (OX : fd < cl ∧ cl < c.bd ∧ c.bv < pl) (hL : @LT.lt Nat _ (L' + 1) c.bd)
    (m1 : m (Str.ofString "bank") = some (.ref c.bk)) (m2 : m (Str.ofString "pool") = some (.ref pl)) (m3 : m (Str.ofString "script") = some (.ref sa)) (hsl : h₀.IsList sa vs0.toArray) (hsi : IntsAre vs0 ns0) (hn0 : ns0.length ≤ 63)
    (hI : IntsAre vs ns) (hns : ns.length ≤ 40) (hb0 : 0 ≤ bl) (hb1 : bl ≤ 10000) (hP : ∀ v ∈ pv, Ent Z ts sw v) (hsm : SomeBits Z pv) (nop : ∀ (i : Nat) T, 1 ≤ i → ts[i]? = some T → ¬ isOp T.op)
    (D6 : ofd.IsDictOf (PySem.strKind PySem.Challenge.rw_nz0152_01.row.prog w) (feedKvs cl k bl tk0 tb)) (hk0 : 0 ≤ k) (hk1 : k ≤ 10) (hpl : pv.length ≤ 3) (hts : ts.length ≤ 6) (hsw : sw.length ≤ 6) (hf1 : f1.length ≤ 50) (hf2 : f2.length ≤ 50) (hf3 : f3.length ≤ 50)
    (fin : ∀ h' tk' m', Fr h₀ L' h' m' → qk (.ret (.bool true)) { s with heap := h', toks := tk' }) (hE : PassesOwn (model PySem.Challenge.rw_nz0152_01.row.prog w) (({ handled := none, depth := dp, frames := some [], guards := gd, units := un } : Around).deeper (envOfC qual scope L' fa cdx)) (envOfC qual scope L' fa cdx) E) :
    wpAny (model PySem.Challenge.rw_nz0152_01.row.prog w) (({ handled := none, depth := dp, frames := some [], guards := gd, units := un } : Around).deeper (envOfC qual scope L' fa cdx)) (execs (body.drop 3) (envOfC qual scope L' fa cdx)) qk E s := by
  revert hE
  k_dflt (apply body_at ho)
  case h' => k_is
  intro ho'
  clear ho
  intro hE
  have P0 : List.Pairwise (@Ne Nat) (c.fn :: c.fa :: c.fr :: fd :: cl :: (L' + 1) :: (L' + 1 + 1) :: pl :: xs.map (·.1)) := hnd
  have p0 := List.pairwise_cons.mp P0
  have p1 := List.pairwise_cons.mp p0.2
  have p2 := List.pairwise_cons.mp p1.2
  have p3 := List.pairwise_cons.mp p2.2
  have p4 := List.pairwise_cons.mp p3.2
  have p5 := List.pairwise_cons.mp p4.2
  have p6 := List.pairwise_cons.mp p5.2
  have p7 := List.pairwise_cons.mp p6.2
  have w5 : @Ne Nat c.fn pl := p0.1 _ mem6
  have w6 : @Ne Nat c.fa pl := p1.1 _ mem5
  have w7 : @Ne Nat c.fr pl := p2.1 _ mem4
  have q1 : @Ne Nat fd pl := p3.1 _ mem3
  have q2 : @Ne Nat cl pl := p4.1 _ mem2
  have q3 : @Ne Nat (L' + 1) pl := p5.1 _ mem1
  have q4 : @Ne Nat (L' + 1 + 1) pl := p6.1 _ mem0
  have xpl : ∀ p ∈ xs, p.1 ≠ pl := fun p hp => Ne.symm (p7.1 p.1 (List.mem_map_of_mem hp))
  have xo9 : ∀ pv9 n9, ∀ p ∈ (fd, ofd) :: (cl, LO vs n) :: (L' + 1, oF) :: (L' + 1 + 1, oS) :: (pl, LO pv9 n9) :: xs, p.1 ≠ c.fn ∧ p.1 ≠ c.fa ∧ p.1 ≠ c.fr := fun _ _ =>
    all_cons ⟨Ne.symm (p0.1 _ mem2), Ne.symm (p1.1 _ mem1), Ne.symm (p2.1 _ mem0)⟩ (all_cons ⟨Ne.symm (p0.1 _ mem3), Ne.symm (p1.1 _ mem2), Ne.symm (p2.1 _ mem1)⟩ (all_cons ⟨Ne.symm (p0.1 _ mem4), Ne.symm (p1.1 _ mem3), Ne.symm (p2.1 _ mem2)⟩ (all_cons ⟨Ne.symm (p0.1 _ mem5), Ne.symm (p1.1 _ mem4), Ne.symm (p2.1 _ mem3)⟩ (all_cons ⟨Ne.symm w5, Ne.symm w6, Ne.symm w7⟩ fun p hp => have h := List.mem_map_of_mem (f := fun x : Addr × Obj => x.1) hp; ⟨Ne.symm (p0.1 _ (in7 _ h)), Ne.symm (p1.1 _ (in6 _ h)), Ne.symm (p2.1 _ (in5 _ h))⟩))))
  have d2 : @Ne Nat fd (L' + 1) := p3.1 _ mem1
  clear P0 p0 p1 p2 p3 p4 p5 p6 p7
  have X1 := X1
  have T1 := T1
  have mb : ∀ p ∈ bankLed w.params c b Z, News h₀ L' s.heap [p] := fun p hp q hq => by
    rw [List.mem_singleton.mp hq]
    exact N1 p (List.mem_append_right _ hp)
  have N2 := nc (mb _ (.head _)) (nc (mb _ (.tail _ (.head _))) N1 (.head _)) (.head _)
  clear mb N1
  dsimp only [List.cons_append, qXS] at N2
  obtain ⟨W, hW⟩ : ∃ W, xs ++ bankLed w.params c b Z = W := ⟨_, rfl⟩
  rw [hW] at N2
  simp only [List.drop]
  try k_fold
  k_steps
  all_goals (try delta Stop)
  rename Fr h₀ L' _ _ => F9
  rename News h₀ L' _ _ => N9
  subst hW
  refine' num_c (xs := qXS c xs fd cl pl L' ofd oF oS vs pv n pn f1 f2 f3 n1 n2 n3) (Z := Z) (b := b) B1 ?zF X1 T1 rfl rfl ?za1 ?za2 ?zN BS I O ZO ?zb1 ?zb2 fun h5 tk5 b5 Z5 ts5 sw5 r5 tr5 jn5 d5 F5 N5 BS5 I5 zz5 ZO5 p51 p52 p53 p54 r51 r52 r53 => ?_
  case zF => exact F9
  case za1 => exact dle hdp rfl
  case za2 => exact ule hun rfl
  case zN => exact fun p hp => N9 p (.tail _ (.tail _ hp))
  case zb1 => omega
  case zb2 => omega
  clear F9 N9
  have hW5 : ∀ p ∈ xs ++ bankLed w.params c b5 Z5, p.1 ≠ pl := BS_W BS5 (o := LO pv pn) (.tail _ (.tail _ (.tail _ (.tail _ (.tail _ (.tail _ (.tail _ (.head _)))))))) xpl
  have mb : ∀ p ∈ bankLed w.params c b5 Z5, News h₀ L' h5 [p] := fun p hp q hq => by
    rw [List.mem_singleton.mp hq]
    exact N5 p (List.mem_append_right _ hp)
  have N6 := nc (mb _ (.head _)) (nc (mb _ (.tail _ (.head _))) N5 (.head _)) (.head _)
  have w8 : @Ne Nat c.bk pl := hW5 (c.bk, instObj 677 c.bd) (List.mem_append_right _ (.head _))
  have w9 : @Ne Nat c.bd pl := hW5 (c.bd, bankDict w.params c) (List.mem_append_right _ (.tail _ (.head _)))
  clear mb N5
  dsimp only [List.cons_append, qXS] at N6
  obtain ⟨W, hW⟩ : ∃ W, xs ++ bankLed w.params c b5 Z5 = W := ⟨_, rfl⟩
  rw [hW] at N6 hW5
  dsimp only
  k_steps
  all_goals (try delta Stop)
  rename Fr h₀ L' _ _ => F9
  rename News h₀ L' _ _ => N9
  have aD := allLt_mem lLk.2.2.2.2.2.2.2.2.2.2
  have aE := allLt_mem lLk2.2.2.2.2.2.2.2.2.2.2.2
  subst hW
  obtain ⟨u1, u2, u3, u4, u5, u6, NE⟩ : ∃ u1 u2 u3 u4 u5 u6, News h₀ L' _ [(Lk2, LO [.int r5 tr5, .int 4 u1, .ref Lk, .int 6 u2] 0), (Lk, LO [.int 0 u3, .int 1 u4, .int 1 u5, .int 0 u6] 0)] := ⟨_, _, _, _, _, _, news_sub N9 (by k_all)⟩
  have BSNT : ∀ p ∈ xs, ∀ us, p.2 ≠ tupO us := fun p hp => BS.nt p (.tail _ (.tail _ (.tail _ (.tail _ (.tail _ (.tail _ (.tail _ (.tail _ (hp)))))))))
  have BS6 : Beside c (qXS c xs fd cl pl L' ofd oF oS vs (pv ++ [Value.ref Lk2]) n (pn + 1) f1 f2 f3 n1 n2 n3) ((Lk2, LO [.int r5 tr5, .int 4 u1, .ref Lk, .int 6 u2] 0) :: (Lk, LO [.int 0 u3, .int 1 u4, .int 1 u5, .int 0 u6] 0) :: Z5) := by
    refine BS5.to rfl (nt_q D6 hoF hoS BSNT) (fun p hp => ?_)
    rcases List.mem_cons.mp hp with rfl | hp
    · exact .inr (all_cons (Nat.ne_of_gt lLk2.2.2.2.1) (all_cons (Nat.ne_of_gt lLk2.2.2.2.2.1) (all_cons (Nat.ne_of_gt lLk2.2.2.2.2.2.1) (all_cons (Nat.ne_of_gt lLk2.2.2.2.2.2.2.1) (all_cons (Nat.ne_of_gt lLk2.2.2.2.2.2.2.2.1) (all_cons (Nat.ne_of_gt lLk2.2.2.2.2.2.2.2.2.1) (all_cons (Nat.ne_of_gt lLk2.2.2.2.2.2.2.2.2.2.1) (all_cons (Nat.ne_of_gt lLk2.2.2.2.2.2.2.2.2.2.2.1) (fun x hx => Nat.ne_of_gt (aE x (List.mem_append_left _ hx)))))))))))
    rcases List.mem_cons.mp hp with rfl | hp
    · exact .inr (all_cons (Nat.ne_of_gt lLk.2.2.1) (all_cons (Nat.ne_of_gt lLk.2.2.2.1) (all_cons (Nat.ne_of_gt lLk.2.2.2.2.1) (all_cons (Nat.ne_of_gt lLk.2.2.2.2.2.1) (all_cons (Nat.ne_of_gt lLk.2.2.2.2.2.2.1) (all_cons (Nat.ne_of_gt lLk.2.2.2.2.2.2.2.1) (all_cons (Nat.ne_of_gt lLk.2.2.2.2.2.2.2.2.1) (all_cons (Nat.ne_of_gt lLk.2.2.2.2.2.2.2.2.2.1) (fun x hx => Nat.ne_of_gt (aD x (List.mem_append_left _ hx)))))))))))
    · exact .inl hp
  have ZO6 : c.Off ((Lk2, LO [.int r5 tr5, .int 4 u1, .ref Lk, .int 6 u2] 0) :: (Lk, LO [.int 0 u3, .int 1 u4, .int 1 u5, .int 0 u6] 0) :: Z5) := off_more' (off_more' ZO5 fun p hp => Nat.ne_of_lt (aD p (List.mem_append_right _ hp))) fun p hp => Nat.ne_of_lt (aE p (List.mem_append_right _ hp))
  refine' sort_x (xs := qXS c xs fd cl pl L' ofd oF oS vs (pv ++ [Value.ref Lk2]) n (pn + 1) f1 f2 f3 n1 n2 n3) (Z := (Lk2, LO [.int r5 tr5, .int 4 u1, .ref Lk, .int 6 u2] 0) :: (Lk, LO [.int 0 u3, .int 1 u4, .int 1 u5, .int 0 u6] 0) :: Z5) (b := b5) B1 ?zF6 X1 T1 rfl rfl ?zc1 ?zc2 ?zN6 BS6 (I5.mono fun p hp => .tail _ (.tail _ hp)) O ZO6 ?zd1 ?zd2 ?zd3 fun h7 tk7 b7 sw7 j7 tj7 F7 N7 I7 p71 p72 p73 p74 => ?_
  case zF6 => exact F9
  case zc1 => exact dle hdp rfl
  case zc2 => exact ule hun rfl
  case zN6 => exact sub_news (nc NE (nc NE N9 mem1) mem0) (sub_cons (by k_mem) (sub_cons (by k_mem) (sub_cons (by k_mem) (sub_cons (by k_mem) (sub_cons (by k_mem) (sub_cons (by k_mem) (sub_cons (by k_mem) (sub_cons (by k_mem) (led_more mem0 (led_more mem1 (by k_all)))))))))))
  case zd1 => decide
  case zd2 => decide
  case zd3 => omega
  clear F9 N9
  have mb : ∀ p ∈ bankLed w.params c b7 ((Lk2, LO [.int r5 tr5, .int 4 u1, .ref Lk, .int 6 u2] 0) :: (Lk, LO [.int 0 u3, .int 1 u4, .int 1 u5, .int 0 u6] 0) :: Z5), News h₀ L' h7 [p] := fun p hp q hq => by
    rw [List.mem_singleton.mp hq]
    exact N7 p (List.mem_append_right _ hp)
  have N10 := nc (mb _ (.head _)) (nc (mb _ (.tail _ (.head _))) N7 (.head _)) (.head _)
  have hW7 : ∀ p ∈ xs ++ bankLed w.params c b7 ((Lk2, LO [.int r5 tr5, .int 4 u1, .ref Lk, .int 6 u2] 0) :: (Lk, LO [.int 0 u3, .int 1 u4, .int 1 u5, .int 0 u6] 0) :: Z5), p.1 ≠ pl := BS_W BS6 (.tail _ (.tail _ (.tail _ (.tail _ (.tail _ (.tail _ (.tail _ (.head _)))))))) xpl
  clear mb N7
  dsimp only [List.cons_append, qXS] at N10
  obtain ⟨W, hW⟩ : ∃ W, xs ++ bankLed w.params c b7 ((Lk2, LO [.int r5 tr5, .int 4 u1, .ref Lk, .int 6 u2] 0) :: (Lk, LO [.int 0 u3, .int 1 u4, .int 1 u5, .int 0 u6] 0) :: Z5) = W := ⟨_, rfl⟩
  rw [hW] at N10 hW7
  dsimp only
  k_steps
  all_goals (try delta Stop)
  rename Fr h₀ L' _ _ => F9
  rename News h₀ L' _ _ => N9
  subst hW
  have lt5 : ts5.length ≤ ts.length + 1 := by rcases r53 with e | e <;> rw [e] <;> simp
  refine' fresh_c (xs := (fd, ofd) :: (cl, LO vs n) :: (L' + 1, oF) :: (L' + 1 + 1, oS) :: (pl, LO (pv ++ [Value.ref Lk2]) (pn + 1)) :: xs) (Z := (Lk2, LO [.int r5 tr5, .int 4 u1, .ref Lk, .int 6 u2] 0) :: (Lk, LO [.int 0 u3, .int 1 u4, .int 1 u5, .int 0 u6] 0) :: Z5) (b := b7) B1 ?yF8 X1 T1 rfl rfl ?ya8 ?yb8 ?yN8 BS6 I7 O ZO6 OF (xo9 _ _) ?yc8 ?yd8 ?ye8 ?yf8 fun h8 tk8 b8 Z8 ts8 r8 tr8 fa8 fb8 fc8 na8 nb8 nc8 d8 F8 N8 BS8 la8 lb8 lc8 I8 zz8 ZO8 ra8 rb8 rc8 => ?_
  case yF8 => exact F9
  case ya8 => exact dle hdp rfl
  case yb8 => exact ule hun rfl
  case yN8 => exact fun p hp => N9 p (.tail _ (.tail _ hp))
  case yc8 => omega
  case yd8 => omega
  case ye8 => omega
  case yf8 => omega
  clear F9 N9
  have lt8 : ts8.length ≤ ts5.length + 1 := by rcases rc8 with e | e <;> rw [e] <;> simp
  have mb : ∀ p ∈ bankLed w.params c b8 (Z8), News h₀ L' h8 [p] := fun p hp q hq => by
    rw [List.mem_singleton.mp hq]
    exact N8 p (List.mem_append_right _ hp)
  have N11 := nc (mb _ (.head _)) (nc (mb _ (.tail _ (.head _))) N8 (.head _)) (.head _)
  have hW8 : ∀ p ∈ xs ++ bankLed w.params c b8 (Z8), p.1 ≠ pl := BS_W BS8 (.tail _ (.tail _ (.tail _ (.tail _ (.tail _ (.tail _ (.tail _ (.head _)))))))) xpl
  clear mb N8
  dsimp only [List.cons_append, qXS] at N11
  obtain ⟨W, hW⟩ : ∃ W, xs ++ bankLed w.params c b8 (Z8) = W := ⟨_, rfl⟩
  rw [hW] at N11 hW8
  dsimp only
  k_steps
  all_goals (try delta Stop)
  rename Fr h₀ L' _ _ => F9
  rename News h₀ L' _ _ => N9
  have aem := allLt_mem lLk3.2.2.2.2.2.2.2.2.2.2
  subst hW
  obtain ⟨v1, NE9⟩ : ∃ v1, News h₀ L' _ [(Lk3, LO [.int r8 tr8, .int 2048 v1, .none, .none] 0)] := ⟨_, news_sub N9 (by k_all)⟩
  have BS9 : Beside c (qXS c xs fd cl pl L' ofd oF oS vs (pv ++ [Value.ref Lk2] ++ [Value.ref Lk3]) n (pn + 1 + 1) fa8 fb8 fc8 na8 nb8 nc8) ((Lk3, LO [.int r8 tr8, .int 2048 v1, .none, .none] 0) :: Z8) := by
    refine BS8.to rfl (nt_q D6 hoF hoS BSNT) (fun p hp => ?_)
    rcases List.mem_cons.mp hp with rfl | hp
    · exact .inr (all_cons (Nat.ne_of_gt lLk3.2.2.1) (all_cons (Nat.ne_of_gt lLk3.2.2.2.1) (all_cons (Nat.ne_of_gt lLk3.2.2.2.2.1) (all_cons (Nat.ne_of_gt lLk3.2.2.2.2.2.1) (all_cons (Nat.ne_of_gt lLk3.2.2.2.2.2.2.1) (all_cons (Nat.ne_of_gt lLk3.2.2.2.2.2.2.2.1) (all_cons (Nat.ne_of_gt lLk3.2.2.2.2.2.2.2.2.1) (all_cons (Nat.ne_of_gt lLk3.2.2.2.2.2.2.2.2.2.1) (fun x hx => Nat.ne_of_gt (aem x (List.mem_append_left _ hx)))))))))))
    · exact .inl hp
  have ZO9 : c.Off ((Lk3, LO [.int r8 tr8, .int 2048 v1, .none, .none] 0) :: Z8) := off_more' ZO8 fun p hp => Nat.ne_of_lt (aem p (List.mem_append_right _ hp))
  refine' fresh_c (xs := (fd, ofd) :: (cl, LO vs n) :: (L' + 1, oF) :: (L' + 1 + 1, oS) :: (pl, LO (pv ++ [Value.ref Lk2] ++ [Value.ref Lk3]) (pn + 1 + 1)) :: xs) (Z := (Lk3, LO [.int r8 tr8, .int 2048 v1, .none, .none] 0) :: Z8) (b := b8) B1 ?yF10 X1 T1 rfl rfl ?ya10 ?yb10 ?yN10 BS9 (I8.mono fun p hp => .tail _ hp) O ZO9 OF (xo9 _ _) ?yc10 ?yd10 ?ye10 ?yf10 fun h10 tk10 b10 Z10 ts10 r10 tr10 fa10 fb10 fc10 na10 nb10 nc10 d10 F10 N10 BS10 la10 lb10 lc10 I10 zz10 ZO10 ra10 rb10 rc10 => ?_
  case yF10 => exact F9
  case ya10 => exact dle hdp rfl
  case yb10 => exact ule hun rfl
  case yN10 => exact sub_news (nc NE9 N9 mem0) (sub_cons (by k_mem) (sub_cons (by k_mem) (sub_cons (by k_mem) (sub_cons (by k_mem) (sub_cons (by k_mem) (sub_cons (by k_mem) (sub_cons (by k_mem) (sub_cons (by k_mem) (led_more mem0 (by k_all))))))))))
  case yc10 => omega
  case yd10 => omega
  case ye10 => omega
  case yf10 => omega
  clear F9 N9
  have lt10 : ts10.length ≤ ts8.length + 1 := by rcases rc10 with e | e <;> rw [e] <;> simp
  have mb : ∀ p ∈ bankLed w.params c b10 (Z10), News h₀ L' h10 [p] := fun p hp q hq => by
    rw [List.mem_singleton.mp hq]
    exact N10 p (List.mem_append_right _ hp)
  have N12 := nc (mb _ (.head _)) (nc (mb _ (.tail _ (.head _))) N10 (.head _)) (.head _)
  have hW10 : ∀ p ∈ xs ++ bankLed w.params c b10 (Z10), p.1 ≠ pl := BS_W BS10 (.tail _ (.tail _ (.tail _ (.tail _ (.tail _ (.tail _ (.tail _ (.head _)))))))) xpl
  clear mb N10
  dsimp only [List.cons_append, qXS] at N12
  obtain ⟨W, hW⟩ : ∃ W, xs ++ bankLed w.params c b10 (Z10) = W := ⟨_, rfl⟩
  rw [hW] at N12 hW10
  dsimp only
  k_steps
  all_goals (try delta Stop)
  rename Fr h₀ L' _ _ => F9
  rename News h₀ L' _ _ => N9
  have aep := allLt_mem lLk4.2.2.2.2.2.2.2.2.2.2
  subst hW
  obtain ⟨v2, NE11⟩ : ∃ v2, News h₀ L' _ [(Lk4, LO [.int r10 tr10, .int 0 v2, .none, .none] 0)] := ⟨_, news_sub N9 (by k_all)⟩
  have ZO11 : c.Off ((Lk4, LO [.int r10 tr10, .int 0 v2, .none, .none] 0) :: Z10) := off_more' ZO10 fun p hp => Nat.ne_of_lt (aep p (List.mem_append_right _ hp))
  have ZO12 : c.Off ((L' + 1, oF) :: (Lk4, LO [.int r10 tr10, .int 0 v2, .none, .none] 0) :: Z10) := BA.Off.below ZO11 O hL
  have s10 : ∀ p ∈ Z10, p ∈ (L' + 1, oF) :: (Lk4, LO [.int r10 tr10, .int 0 v2, .none, .none] 0) :: Z10 := fun p hp => .tail _ (.tail _ hp)
  have s8 : ∀ p ∈ Z8, p ∈ (L' + 1, oF) :: (Lk4, LO [.int r10 tr10, .int 0 v2, .none, .none] 0) :: Z10 := fun p hp => s10 p (zz10 p (.tail _ hp))
  have s6 : ∀ p ∈ (Lk2, LO [.int r5 tr5, .int 4 u1, .ref Lk, .int 6 u2] 0) :: (Lk, LO [.int 0 u3, .int 1 u4, .int 1 u5, .int 0 u6] 0) :: Z5, p ∈ (L' + 1, oF) :: (Lk4, LO [.int r10 tr10, .int 0 v2, .none, .none] 0) :: Z10 := fun p hp => s8 p (zz8 p hp)
  have s0 : ∀ p ∈ Z, p ∈ (L' + 1, oF) :: (Lk4, LO [.int r10 tr10, .int 0 v2, .none, .none] 0) :: Z10 := fun p hp => s6 p (.tail _ (.tail _ (zz5 p hp)))
  have t5 : ts <+: ts5 := by rcases r53 with e | e <;> rw [e]; exact List.prefix_refl _; exact List.prefix_append _ _
  have t8 : ts5 <+: ts8 := by rcases rc8 with e | e <;> rw [e]; exact List.prefix_refl _; exact List.prefix_append _ _
  have t10 : ts8 <+: ts10 := by rcases rc10 with e | e <;> rw [e]; exact List.prefix_refl _; exact List.prefix_append _ _
  have np : ∀ {ts ts' : List Tm} {T : Tm}, (∀ (i : Nat) T, 1 ≤ i → ts[i]? = some T → ¬ isOp T.op) → ¬ isOp T.op → (ts' = ts ∨ ts' = ts ++ [T]) → ∀ (i : Nat) T, 1 ≤ i → ts'[i]? = some T → ¬ isOp T.op := nop_snoc
  have nop10 := np (np (np nop not_op_num r53) not_op_app rc8) not_op_app rc10
  have sx : sw <+: sw7 := p51.trans p71
  have hP12 : ∀ v ∈ pv ++ [Value.ref Lk2] ++ [Value.ref Lk3] ++ [Value.ref Lk4], Ent ((L' + 1, oF) :: (Lk4, LO [.int r10 tr10, .int 0 v2, .none, .none] 0) :: Z10) ts10 sw7 v := by
    intro v hv
    rcases List.mem_append.mp hv with hv | hv
    · rcases List.mem_append.mp hv with hv | hv
      · rcases List.mem_append.mp hv with hv | hv
        · exact (hP v hv).mono s0 (t5.trans (t8.trans t10)) sx
        · rw [List.mem_singleton.mp hv]
          refine ⟨Lk2, r5, tr5, 4, u1, _, _, 0, rfl, s6 _ (.head _), wof_pre (t8.trans t10) p71 ⟨by omega, _, by simpa using r52, by show (0 : Int) ≤ (jn5 : Int); omega, by show sw5[(jn5 : Int).toNat]? = _; simpa using p53⟩, .inr ⟨Lk, _, 0, [0, 1, 1, 0], u2, rfl, s6 _ (.tail _ (.head _)), .cons _ _ (.cons _ _ (.cons _ _ (.cons _ _ .nil))), bits4, rfl, rfl, by decide, by decide⟩⟩
      · rw [List.mem_singleton.mp hv]
        exact ⟨Lk3, r8, tr8, 2048, v1, _, _, 0, rfl, s10 _ (zz10 _ (.head _)), wof_pre t10 (List.prefix_refl _) ⟨by omega, _, by simpa using rb8, by show (0 : Int) ≤ (j7 : Int); omega, by show sw7[(j7 : Int).toNat]? = _; simpa using p73⟩, .inl ⟨rfl, rfl⟩⟩
    · rw [List.mem_singleton.mp hv]
      obtain ⟨ns1, ns2, ns3⟩ := I10.ns
      have h0 : sw7[0]? = some sw7[0] := List.getElem?_eq_getElem (by omega)
      have hz := (I10.so 0 _ h0).z (by omega)
      exact ⟨Lk4, r10, tr10, 0, v2, _, _, 0, rfl, .tail _ (.head _), ⟨by omega, _, by simpa using rb10, by show (0 : Int) ≤ 0; omega, by show sw7[0]? = some 0; rw [h0, hz]⟩, .inl ⟨rfl, rfl⟩⟩
  have hsm12 : SomeBits ((L' + 1, oF) :: (Lk4, LO [.int r10 tr10, .int 0 v2, .none, .none] 0) :: Z10) (pv ++ [Value.ref Lk2] ++ [Value.ref Lk3] ++ [Value.ref Lk4]) := by
    obtain ⟨e, a0, a1, a2, a3, q, g1, g2, g3⟩ := hsm
    exact ⟨e, a0, a1, a2, a3, q, List.mem_append_left _ (List.mem_append_left _ (List.mem_append_left _ g1)), s0 _ g2, g3⟩
  have zfd12 : ∀ p ∈ (L' + 1, oF) :: (Lk4, LO [.int r10 tr10, .int 0 v2, .none, .none] 0) :: Z10, p.1 ≠ fd := all_cons (Ne.symm d2) (all_cons (Nat.ne_of_gt lLk4.2.2.2.2.2.1) (fun p hp => BS10.z p hp (fd, ofd) (.tail _ (.tail _ (.tail _ (.head _))))))
  have zpl12 : ∀ p ∈ (L' + 1, oF) :: (Lk4, LO [.int r10 tr10, .int 0 v2, .none, .none] 0) :: Z10, p.1 ≠ pl := all_cons q3 (all_cons (Nat.ne_of_gt lLk4.2.2.2.2.2.2.2.2.2.1) (fun p hp => BS10.z p hp (pl, _) (.tail _ (.tail _ (.tail _ (.tail _ (.tail _ (.tail _ (.tail _ (.head _))))))))))
  have NL : News h₀ L' _ ((fd, ofd) :: (cl, LO vs n) :: (pl, LO (pv ++ [Value.ref Lk2] ++ [Value.ref Lk3] ++ [Value.ref Lk4]) (pn + 1 + 1 + 1)) :: bankLed w.params c b10 ((L' + 1, oF) :: (Lk4, LO [.int r10 tr10, .int 0 v2, .none, .none] 0) :: Z10)) := sub_news (nc NE11 N9 mem0) (sub_cons (by k_mem) (sub_cons (by k_mem) (sub_cons (by k_mem) (bank_more (by k_mem) (bank_more mem0 fun p hp => (by k_all : ∀ p ∈ xs ++ bankLed w.params c b10 Z10, p ∈ _) p (List.mem_append_right _ hp))))))
  with_reducible refine Shut.out ?_
  exact (law_tail (Z := (L' + 1, oF) :: (Lk4, LO [.int r10 tr10, .int 0 v2, .none, .none] 0) :: Z10) (unhid ho')) B1 F9 X1 T1 hdp hun XB TB NL (.head _) hoF O OX m1 m2 m3 hsl hsi hn0 hI hns hb0 hb1 ZO12 zfd12 zpl12 (I10.mono s10) hP12 hsm12 nop10 D6 hk0 hk1 (by simp; omega) (by omega) (by omega) fin hE
end
end
section
open PySem PySem.W PySem.Calls PyProof.Rows
local macro_rules | `(tactic| walk_at "pad0") => `(tactic| skip)
set_option hygiene false in
local macro_rules | `(tactic| walk_at "execs cons") => `(tactic| with_reducible refine st_asgL ?_)
set_option hygiene false in
local macro_rules | `(tactic| walk_at "execs cons") => `(tactic| with_reducible refine st_expr ?_)
theorem head_obj {h₀ h : Heap} {L a : Addr} {o : Obj} {W : List (Addr × Obj)} (_ : News h₀ L h ((a, o) :: W)) : ∃ z, z = o := ⟨o, rfl⟩
theorem off_left {c : BA} {xs ys : List (Addr × Obj)} (x : c.Off (xs ++ ys)) : c.Off xs := x.sub fun _ h => List.mem_append_left _ h
theorem off_nil {c : BA} : c.Off [] := by constructor <;> (intro _ h; cases h)
section
variable {w : World} {mean : ExcName → Option Value} {mg mb : Str → Option Value} {dp un : Nat} {gd : Option (List Code)} {env : Env} {outer : List Env} {A₀ : Around} {base h₀ g₀ : Heap} {L : Addr} {m : Str → Option Value} {s : Shared} {Q E : Value → Shared → Prop}
    {c : BA} {b : BSt} {Z : List (Addr × Obj)} {ts : List Tm} {sw : List Int} {fd cl pl nw : Nat} {ofd oF oS oJ : Obj} {vs pv : List Value} {ns : List Int} {n pn : Nat} {bl k : Int} {tk0 tb tn tw : Tok} {f1 f2 f3 : List Value} {n1 n2 n3 : Nat} {cS : Option Value} {J T : Addr} {nm : Str} {S0 : Shared} {R : (Str → Option Value) → List (Addr × Obj) → Prop}
    {fa : Addr} {cdx : Value} {name qual : Str} {params : Arguments} {body : List Stmt} {scope : Scope} {dV kV doc pm cdv ct oc9 : Value} {an od : Option Addr} {osl : Array (Option Value)} {qk : Flow → Shared → Prop} {L' : Addr}
set_option maxHeartbeats 20000000 in
/-- one turn of the first for -/
theorem pool_turn (ho : (heap w.params).lookup 741 = some ⟨oc9, od, .func (fnOf name qual params body scope dV kV doc pm an cdv ct), osl⟩) (B1 : Below ({ handled := none, depth := dp, frames := some [], guards := gd, units := un } : Around) base [] h₀) (F1 : Fr h₀ L' s.heap m) (X1 : (heap w.params).In h₀) (T1 : Top view (looseW view []) mean mg mb h₀) (hdp : dp ≤ 410) (hun : un ≤ 300)
    (XB : (heap w.params).In base) (TB : Top view (looseW view []) mean mg mb base)
    (N1 : News h₀ L' s.heap ((J, oJ) :: (pXS c [] fd cl pl L' ofd oF oS vs pv n pn f1 f2 f3 n1 n2 n3 ++ bankLed w.params c b Z))) (BS : Beside c (pXS c [] fd cl pl L' ofd oF oS vs pv n pn f1 f2 f3 n1 n2 n3) Z) (hnd : ((pXS c [] fd cl pl L' ofd oF oS vs pv n pn f1 f2 f3 n1 n2 n3).map (·.1)).Nodup)
    (hcJ : oJ.cls = .type "tuple_iterator") (hJn : ∀ p ∈ pXS c [] fd cl pl L' ofd oF oS vs pv n pn f1 f2 f3 n1 n2 n3 ++ bankLed w.params c b Z, p.1 ≠ J) (hT : (T, tupO [.str nm tn, .int nw tw]) ∈ Z)
    (hoF : oF.data = .cell (some (.ref fd))) (hoS : oS.data = .cell cS) (I : BInv w Z b ts sw) (O : c.Ord) (ZO : c.Off Z) (OF : c.fn < c.fa ∧ c.fa < c.fr)
    (m1 : m (Str.ofString "bank") = some (.ref c.bk)) (m2 : m (Str.ofString "pool") = some (.ref pl))
    (D6 : ofd.IsDictOf (PySem.strKind PySem.Challenge.rw_nz0152_01.row.prog w) (feedKvs cl k bl tk0 tb)) (hk0 : 0 ≤ k) (hk1 : k ≤ 10) (hI : IntsAre vs ns) (hns : ns.length ≤ 40) (hb0 : 0 ≤ bl) (hb1 : bl ≤ 10000) (hnw : 1 ≤ nw ∧ nw ≤ 10) (hts : ts.length ≤ 90) (hsw : sw.length ≤ 90) (hpv : pv.length ≤ 90) (hf1 : f1.length ≤ 90) (hf2 : f2.length ≤ 90) (hf3 : f3.length ≤ 90)
    (hS0 : ∃ h tk, S0 = { s with heap := h, toks := tk })
    (ret : ∀ m' b' Z' ts' sw' ofd' oS' k' tk9 f1' f2' f3' n1' n2' n3' pn' v D8, (∀ y, y ≠ Str.ofString "worth" → y ≠ Str.ofString "name" → y ≠ Str.ofString "wide" → m' y = m y) →
      Beside c (pXS c [] fd cl pl L' ofd' oF oS' vs (pv ++ [v]) n pn' f1' f2' f3' n1' n2' n3') Z' → oS'.data = .cell (some (.ref D8)) → BInv w Z' b' ts' sw' → c.Off Z' → (∀ p ∈ Z, p ∈ Z') → (∀ p ∈ pXS c [] fd cl pl L' ofd' oF oS' vs (pv ++ [v]) n pn' f1' f2' f3' n1' n2' n3' ++ bankLed w.params c b' Z', p.1 ≠ J) → sw <+: sw' → sw'.length ≤ sw.length + 1 → (ts' = ts ∨ ∃ T : Tm, ts' = ts ++ [T] ∧ ¬ isOp T.op) →
      Ent Z' ts' sw' v → SomeBits Z' [v] → ofd'.IsDictOf (PySem.strKind PySem.Challenge.rw_nz0152_01.row.prog w) (feedKvs cl k' bl tk9 tb) → 0 ≤ k' → k' ≤ k + nw → f1'.length ≤ f1.length + 1 → f2'.length ≤ f2.length + 1 → f3'.length ≤ f3.length + 1 → R m' (pXS c [] fd cl pl L' ofd' oF oS' vs (pv ++ [v]) n pn' f1' f2' f3' n1' n2' n3' ++ bankLed w.params c b' Z')) :
    wpAny (model PySem.Challenge.rw_nz0152_01.row.prog w) (({ handled := none, depth := dp, frames := some [], guards := gd, units := un } : Around).deeper (envOfC qual scope L' fa cdx)) (assign (ftgt (body.drop 2)) (envOfC qual scope L' fa cdx) (.ref T)) (fun _ s₂ => wpAny (model PySem.Challenge.rw_nz0152_01.row.prog w) (({ handled := none, depth := dp, frames := some [], guards := gd, units := un } : Around).deeper (envOfC qual scope L' fa cdx)) (execs (fb (body.drop 2)) (envOfC qual scope L' fa cdx)) (UnrPostW h₀ L' S0 [(J, oJ)] R qk) E s₂) E s := by
  k_dflt (apply body_at ho)
  case h' => k_is
  intro ho'
  clear ho
  have X1 := X1
  have T1 := T1
  have N2 := nc (show News h₀ L' s.heap [(T, tupO [.str nm tn, .int nw tw])] from fun p hp => by rw [List.mem_singleton.mp hp]; exact N1 _ (.tail _ (List.mem_append_right _ (bankLed_tail _ hT)))) N1 (.head _)
  clear N1
  obtain ⟨W, hW⟩ : ∃ W, pXS c [] fd cl pl L' ofd oF oS vs pv n pn f1 f2 f3 n1 n2 n3 ++ bankLed w.params c b Z = W := ⟨_, rfl⟩
  rw [hW] at N2
  simp only [List.drop, fb, ftgt]
  delta kids gut
  dsimp only
  try k_fold
  k_steps
  all_goals (try delta Stop)
  rename Fr h₀ L' _ _ => F9
  rename News h₀ L' _ _ => N9
  subst hW
  have BS1 : Beside c (pXS c [(J, oJ)] fd cl pl L' ofd oF oS vs pv n pn f1 f2 f3 n1 n2 n3) Z :=
    ⟨List.forall_mem_append.mpr ⟨BS.nt, fun p hp us e => by rw [List.mem_singleton.mp hp] at e; have e2 : oJ = tupO us := e; rw [e2] at hcJ; injection hcJ with hcJ; exact absurd hcJ (by decide)⟩, BA.Off.append BS.off (off_more' off_nil (fun p hp => hJn p (List.mem_append_right _ hp))),
      fun p hp x hx => (List.mem_append.mp (show x ∈ pXS c [] fd cl pl L' ofd oF oS vs pv n pn f1 f2 f3 n1 n2 n3 ++ [(J, oJ)] from hx)).elim (BS.z p hp x) fun hx => by rw [List.mem_singleton.mp hx]; exact hJn p (List.mem_append_right _ (bankLed_tail p hp))⟩
  have hnd1 : ((pXS c [(J, oJ)] fd cl pl L' ofd oF oS vs pv n pn f1 f2 f3 n1 n2 n3).map (·.1)).Nodup := by
    show ((pXS c [] fd cl pl L' ofd oF oS vs pv n pn f1 f2 f3 n1 n2 n3).map (·.1) ++ [J]).Nodup
    refine List.nodup_append.mpr ⟨hnd, by simp, fun a ha b' hb' => ?_⟩
    obtain ⟨p, hp, e⟩ := List.mem_map.mp ha
    rw [List.mem_singleton.mp hb', ← e]
    exact hJn p (List.mem_append_left _ hp)
  have NP : News h₀ L' _ (pXS c [(J, oJ)] fd cl pl L' ofd oF oS vs pv n pn f1 f2 f3 n1 n2 n3 ++ bankLed w.params c b Z) := fun p hp => by
    rcases List.mem_append.mp hp with hp | hp
    · rcases List.mem_append.mp (show p ∈ pXS c [] fd cl pl L' ofd oF oS vs pv n pn f1 f2 f3 n1 n2 n3 ++ [(J, oJ)] from hp) with hp | hp
      · exact N9 p (.tail _ (.tail _ (List.mem_append_left _ hp)))
      · rw [List.mem_singleton.mp hp]; exact N9 _ (.tail _ (.head _))
    · exact N9 p (.tail _ (.tail _ (List.mem_append_right _ hp)))
  refine pool_bits (unhid ho') B1 F9 X1 T1 hdp hun XB TB NP BS1 hnd1 hoF hoS I O ZO OF (by with_unfolding_all exact m1) (by with_unfolding_all exact m2) (by with_unfolding_all rfl) (by with_unfolding_all rfl) D6 hk0 hk1 hI hns hb0 hb1 hnw hts hsw hpv hf1 hf2 hf3 fun h' tk' m' b' Z' ts' sw' ofd' oS' k' tk9 f1' f2' f3' n1' n2' n3' pn' v D8 F' hm' N' BS' hoS' I' ZO' zz' a1 a2 a3 a4 a5 a6 a7 a8 a9 a10 a11 => ?_
  obtain ⟨h0, t0, rfl⟩ := hS0
  have hJz : ∀ p ∈ pXS c [] fd cl pl L' ofd' oF oS' vs (pv ++ [v]) n pn' f1' f2' f3' n1' n2' n3' ++ bankLed w.params c b' Z', p.1 ≠ J := fun p hp => by
    rcases List.mem_append.mp hp with hp | hp
    · have e1 : p.1 ∈ (pXS c [] fd cl pl L' ofd oF oS vs pv n pn f1 f2 f3 n1 n2 n3).map (·.1) := List.mem_map_of_mem (f := (·.1)) hp
      obtain ⟨q, hq, e⟩ := List.mem_map.mp e1
      have e' : q.1 = p.1 := e
      rw [← e']
      exact hJn q (List.mem_append_left _ hq)
    · exact bank_ne (xs := pXS c [(J, oJ)] fd cl pl L' ofd' oF oS' vs (pv ++ [v]) n pn' f1' f2' f3' n1' n2' n3') (o := oJ) BS'.off (by simp [pXS]) (fun q hq => BS'.z q hq (J, oJ) (by simp [pXS])) p hp
  refine ⟨h', tk', m', pXS c [] fd cl pl L' ofd' oF oS' vs (pv ++ [v]) n pn' f1' f2' f3' n1' n2' n3' ++ bankLed w.params c b' Z', rfl, F', fun p hp => ?_, fun p hp q hq => by rw [List.mem_singleton.mp hq]; exact hJz p hp, ret m' b' Z' ts' sw' ofd' oS' k' tk9 f1' f2' f3' n1' n2' n3' pn' v D8 ?_ ⟨fun p hp => BS'.nt p ?_, ?_, fun p hp x hx => BS'.z p hp x ?_⟩ hoS' I' ZO' zz' hJz a1 a2 a3 a4 a5 a6 a7 a8 a9 a10 a11⟩
  · have up : ∀ q ∈ pXS c [] fd cl pl L' ofd' oF oS' vs (pv ++ [v]) n pn' f1' f2' f3' n1' n2' n3' ++ [(J, oJ)], q ∈ pXS c [(J, oJ)] fd cl pl L' ofd' oF oS' vs (pv ++ [v]) n pn' f1' f2' f3' n1' n2' n3' := fun q hq => hq
    rcases List.mem_append.mp hp with hp | hp
    · exact N' p (List.mem_append_left _ (up p (List.mem_append_right _ hp)))
    · rcases List.mem_append.mp hp with hp | hp
      · exact N' p (List.mem_append_left _ (up p (List.mem_append_left _ hp)))
      · exact N' p (List.mem_append_right _ hp)
  · intro y y1 y2 y3
    rw [hm' y y1]
    show (if y = Str.ofString "wide" then _ else if y = Str.ofString "name" then _ else m y) = m y
    rw [if_neg y3, if_neg y2]
  · exact List.mem_append_left [(J, oJ)] hp
  · show c.Off (pXS c [] fd cl pl L' ofd' oF oS' vs (pv ++ [v]) n pn' f1' f2' f3' n1' n2' n3')
    have g := BS'.off
    exact off_left (ys := [(J, oJ)]) g
  · exact List.mem_append_left [(J, oJ)] hx
end
end
section
open PySem PySem.W PySem.Calls PyProof.Rows
theorem st_itt {M : Model} {A : Around} {s : Shared} {E : Value → Shared → Prop} {a x1 x2 x3 x4 x5 x6 x7 x8 x9} (h : Stop (wpAny M A (pyIter (.ref a)) (TurnsAt x1 x2 x3 x4 x5 x6 x7 x8 x9) E s)) : wpAny M A (pyIter (.ref a)) (TurnsAt x1 x2 x3 x4 x5 x6 x7 x8 x9) E s := h
set_option hygiene false in
local macro_rules | `(tactic| walk_at "pyIter ref") => `(tactic| with_reducible refine st_itt ?_)
set_option hygiene false in
local macro_rules | `(tactic| walk_at "execs cons") => `(tactic| with_reducible refine st_expr ?_)
section
variable {w : World} {mean : ExcName → Option Value} {mg mb : Str → Option Value} {dp un : Nat} {gd : Option (List Code)} {env : Env} {outer : List Env} {A₀ : Around} {base h₀ g₀ : Heap} {L : Addr} {m : Str → Option Value} {s : Shared} {Q E : Value → Shared → Prop}
    {c : BA} {b : BSt} {Z : List (Addr × Obj)} {ts : List Tm} {sw : List Int} {fd cl pl sa : Nat} {ofd oF oS : Obj} {vs vs0 : List Value} {ns ns0 : List Int} {n pn : Nat} {bl k : Int} {tk0 tb : Tok} {f1 f2 f3 : List Value} {n1 n2 n3 : Nat} {cS : Option Value}
    {fa : Addr} {cdx : Value} {name qual : Str} {params : Arguments} {body : List Stmt} {scope : Scope} {dV kV doc pm cdv ct oc9 : Value} {an od : Option Addr} {osl : Array (Option Value)} {qk : Flow → Shared → Prop} {L' : Addr}
set_option maxHeartbeats 20000000 in
theorem law_m2 (ho : (heap w.params).lookup 741 = some ⟨oc9, od, .func (fnOf name qual params body scope dV kV doc pm an cdv ct), osl⟩) (B1 : Below ({ handled := none, depth := dp, frames := some [], guards := gd, units := un } : Around) base [] h₀) (F1 : Fr h₀ L' s.heap m) (X1 : (heap w.params).In h₀) (T1 : Top view (looseW view []) mean mg mb h₀) (hdp : dp ≤ 410) (hun : un ≤ 300)
    (XB : (heap w.params).In base) (TB : Top view (looseW view []) mean mg mb base)
    (N1 : News h₀ L' s.heap (pXS c [] fd cl pl L' ofd oF oS vs [] n pn f1 f2 f3 n1 n2 n3 ++ bankLed w.params c b Z)) (BS : Beside c (pXS c [] fd cl pl L' ofd oF oS vs [] n pn f1 f2 f3 n1 n2 n3) Z) (hnd : ((pXS c [] fd cl pl L' ofd oF oS vs [] n pn f1 f2 f3 n1 n2 n3).map (·.1)).Nodup)
    (hoF : oF.data = .cell (some (.ref fd))) (hoS : oS.data = .cell cS) (I : BInv w Z b ts sw) (O : c.Ord) (ZO : c.Off Z) (OF : c.fn < c.fa ∧ c.fa < c.fr) (OX : fd < cl ∧ cl < c.bd ∧ c.bv < pl) (hL : @LT.lt Nat _ (L' + 1) c.bd)
    (m1 : m (Str.ofString "bank") = some (.ref c.bk)) (m2 : m (Str.ofString "pool") = some (.ref pl)) (m3 : m (Str.ofString "script") = some (.ref sa)) (hsl : h₀.IsList sa vs0.toArray) (hsi : IntsAre vs0 ns0) (hn0 : ns0.length ≤ 63)
    (hI : IntsAre vs ns) (hns : ns.length ≤ 40) (hb0 : 0 ≤ bl) (hb1 : bl ≤ 10000) (nop : ∀ (i : Nat) T, 1 ≤ i → ts[i]? = some T → ¬ isOp T.op)
    (D6 : ofd.IsDictOf (PySem.strKind PySem.Challenge.rw_nz0152_01.row.prog w) (feedKvs cl k bl tk0 tb)) (hk0 : 0 ≤ k) (hk1 : k ≤ 1) (hts : ts.length ≤ 4) (hsw : sw.length ≤ 4) (hf1 : f1.length ≤ 40) (hf2 : f2.length ≤ 40) (hf3 : f3.length ≤ 40)
    (fin : ∀ h' tk' m', Fr h₀ L' h' m' → qk (.ret (.bool true)) { s with heap := h', toks := tk' }) (hE : PassesOwn (model PySem.Challenge.rw_nz0152_01.row.prog w) (({ handled := none, depth := dp, frames := some [], guards := gd, units := un } : Around).deeper (envOfC qual scope L' fa cdx)) (envOfC qual scope L' fa cdx) E) :
    Shut (wpAny (model PySem.Challenge.rw_nz0152_01.row.prog w) (({ handled := none, depth := dp, frames := some [], guards := gd, units := un } : Around).deeper (envOfC qual scope L' fa cdx)) (execs (body.drop 2) (envOfC qual scope L' fa cdx)) qk E s) := by
  refine ⟨?_⟩
  revert hE
  k_dflt (apply body_at ho)
  case h' => k_is
  intro ho'
  clear ho
  intro hE
  have X1 := X1
  have T1 := T1
  have N2 := N1
  clear N1
  dsimp only [List.cons_append, List.nil_append, pXS] at N2
  obtain ⟨W, hW⟩ : ∃ W, bankLed w.params c b Z = W := ⟨_, rfl⟩
  rw [hW] at N2
  simp only [List.drop]
  try k_fold
  k_steps
  all_goals (try delta Stop)
  rename Fr h₀ L' _ _ => F9
  rename News h₀ L' _ _ => N9
  have aX := allLt_mem lDk.2.2.2.2.2.2.2.2
  have aY := allLt_mem lDk2.2.2.2.2.2.2.2.2.2
  have aT := allLt_mem lDk3.2.2.2.2.2.2.2.2.2.2
  subst hW
  obtain ⟨a1, a2, a3, a4, NT⟩ : ∃ a1 a2 a3 a4, News h₀ L' _ [(Dk3, tupO [.ref Dk, .ref Dk2]), (Dk2, tupO [.str (Str.ofString "y") a1, .int 1 a2]), (Dk, tupO [.str (Str.ofString "x") a3, .int 3 a4])] := ⟨_, _, _, _, news_sub N9 (by k_all)⟩
  have ZO1 : c.Off ((Dk3, tupO [.ref Dk, .ref Dk2]) :: (Dk2, tupO [.str (Str.ofString "y") a1, .int 1 a2]) :: (Dk, tupO [.str (Str.ofString "x") a3, .int 3 a4]) :: Z) := off_more' (off_more' (off_more' ZO fun p hp => Nat.ne_of_lt (aX p hp)) fun p hp => Nat.ne_of_lt (aY p hp)) fun p hp => Nat.ne_of_lt (aT p hp)
  have BS1 : Beside c (pXS c [] fd cl pl L' ofd oF oS vs [] n pn f1 f2 f3 n1 n2 n3) ((Dk3, tupO [.ref Dk, .ref Dk2]) :: (Dk2, tupO [.str (Str.ofString "y") a1, .int 1 a2]) :: (Dk, tupO [.str (Str.ofString "x") a3, .int 3 a4]) :: Z) := by
    refine BS.to rfl BS.nt fun p hp => ?_
    rcases List.mem_cons.mp hp with rfl | hp
    · exact .inr (all_cons (Nat.ne_of_gt lDk3.2.2.1) (all_cons (Nat.ne_of_gt lDk3.2.2.2.1) (all_cons (Nat.ne_of_gt lDk3.2.2.2.2.1) (all_cons (Nat.ne_of_gt lDk3.2.2.2.2.2.1) (all_cons (Nat.ne_of_gt lDk3.2.2.2.2.2.2.1) (all_cons (Nat.ne_of_gt lDk3.2.2.2.2.2.2.2.1) (all_cons (Nat.ne_of_gt lDk3.2.2.2.2.2.2.2.2.1) (all_cons (Nat.ne_of_gt lDk3.2.2.2.2.2.2.2.2.2.1) (fun x hx => nomatch hx)))))))))
    rcases List.mem_cons.mp hp with rfl | hp
    · exact .inr (all_cons (Nat.ne_of_gt lDk2.2.1) (all_cons (Nat.ne_of_gt lDk2.2.2.1) (all_cons (Nat.ne_of_gt lDk2.2.2.2.1) (all_cons (Nat.ne_of_gt lDk2.2.2.2.2.1) (all_cons (Nat.ne_of_gt lDk2.2.2.2.2.2.1) (all_cons (Nat.ne_of_gt lDk2.2.2.2.2.2.2.1) (all_cons (Nat.ne_of_gt lDk2.2.2.2.2.2.2.2.1) (all_cons (Nat.ne_of_gt lDk2.2.2.2.2.2.2.2.2.1) (fun x hx => nomatch hx)))))))))
    rcases List.mem_cons.mp hp with rfl | hp
    · exact .inr (all_cons (Nat.ne_of_gt lDk.1) (all_cons (Nat.ne_of_gt lDk.2.1) (all_cons (Nat.ne_of_gt lDk.2.2.1) (all_cons (Nat.ne_of_gt lDk.2.2.2.1) (all_cons (Nat.ne_of_gt lDk.2.2.2.2.1) (all_cons (Nat.ne_of_gt lDk.2.2.2.2.2.1) (all_cons (Nat.ne_of_gt lDk.2.2.2.2.2.2.1) (all_cons (Nat.ne_of_gt lDk.2.2.2.2.2.2.2.1) (fun x hx => nomatch hx)))))))))
    · exact .inl hp
  have NP : News h₀ L' _ (pXS c [] fd cl pl L' ofd oF oS vs [] n pn f1 f2 f3 n1 n2 n3 ++ bankLed w.params c b ((Dk3, tupO [.ref Dk, .ref Dk2]) :: (Dk2, tupO [.str (Str.ofString "y") a1, .int 1 a2]) :: (Dk, tupO [.str (Str.ofString "x") a3, .int 3 a4]) :: Z)) := news_sub (nc NT (nc NT (nc NT N9 mem2) mem1) mem0) (sub_cons (by k_mem) (sub_cons (by k_mem) (sub_cons (by k_mem) (sub_cons (by k_mem) (sub_cons (by k_mem) (sub_cons (by k_mem) (sub_cons (by k_mem) (sub_cons (by k_mem) (bank_more mem0 (bank_more mem1 (bank_more mem2 (by k_all))))))))))))
  have zz1 : ∀ p ∈ Z, p ∈ (Dk3, tupO [.ref Dk, .ref Dk2]) :: (Dk2, tupO [.str (Str.ofString "y") a1, .int 1 a2]) :: (Dk, tupO [.str (Str.ofString "x") a3, .int 3 a4]) :: Z := fun p hp => .tail _ (.tail _ (.tail _ hp))
  clear N9
  refine iter_tupTurns (lo := tupO [.ref Dk, .ref Dk2]) (vs := [.ref Dk, .ref Dk2]) (by rfl) F9 NP (List.mem_append_right _ (bankLed_tail _ (.head _))) (by rfl) (by rfl) fun J lJ => ?_
  with_unfolding_all refine ItemsRest.val (fun hA tkA FA => ?_)
  ktu_objs
  rename News h₀ _ hA _ => NA
  rename _ = Value.type "tuple_iterator" => hcA
  refine pool_turn (J := J) (T := Dk) (nm := Str.ofString "x") (nw := 3) (pv := []) (Z := (Dk3, tupO [.ref Dk, .ref Dk2]) :: (Dk2, tupO [.str (Str.ofString "y") a1, .int 1 a2]) :: (Dk, tupO [.str (Str.ofString "x") a3, .int 3 a4]) :: Z) (unhid ho') B1 FA X1 T1 hdp hun XB TB NA BS1 hnd hcA (fun p hp => Nat.ne_of_lt (lJ p hp)) (.tail _ (.tail _ (.head _))) hoF hoS (I.mono zz1) O ZO1 OF m1 m2 D6 hk0 (by omega) hI hns hb0 hb1 ⟨by omega, by omega⟩ (by omega) (by omega) (by simp) (by omega) (by omega) (by omega) ⟨_, _, rfl⟩
    fun m5 b5 Z5 ts5 sw5 ofd5 oS5 k5 tk5 g1 g2 g3 gn1 gn2 gn3 pn5 v5 D5 hm5 BS5 hoS5 I5 ZO5 zz5 hJ5 p51 p52 p53 p54 p55 D65 p56 p57 p58 p59 p5a => ⟨⟨List.mem_append_right _ (bankLed_tail _ (zz5 _ (.head _))), trivial⟩, ?_⟩
  have hk57 : k5 ≤ 4 := icl p57 hk1 (by decide)
  have lt5 : ts5.length ≤ ts.length + 1 := by rcases p53 with e | ⟨T, e, _⟩ <;> rw [e] <;> simp
  with_unfolding_all refine ItemsRest.val (fun hB tkB FB => ?_)
  ktu_objs
  rename News h₀ _ hB _ => NB
  clear hcA
  rename _ = Value.type "tuple_iterator" => hcB
  have e5 : ∀ y, y ≠ Str.ofString "worth" → y ≠ Str.ofString "name" → y ≠ Str.ofString "wide" → m5 y = m y := hm5
  refine pool_turn (J := J) (T := Dk2) (nm := Str.ofString "y") (nw := 1) (pv := [v5]) (Z := Z5) (unhid ho') B1 FB X1 T1 hdp hun XB TB NB BS5 hnd hcB hJ5 (zz5 _ (.tail _ (.head _))) hoF hoS5 I5 O ZO5 OF ((e5 _ (by decide) (by decide) (by decide)).trans m1) ((e5 _ (by decide) (by decide) (by decide)).trans m2) D65 p56 (by omega) hI hns hb0 hb1 ⟨by omega, by omega⟩ (by omega) (by omega) (by simp) (by omega) (by omega) (by omega) ⟨_, _, rfl⟩
    fun m7 b7 Z7 ts7 sw7 ofd7 oS7 k7 tk7 u1 u2 u3 un1 un2 un3 pn7 v7 D7 hm7 BS7 hoS7 I7 ZO7 zz7 hJ7 p71 p72 p73 p74 p75 D67 p76 p77 p78 p79 p7a => ⟨⟨List.mem_append_right _ (bankLed_tail _ (zz7 _ (zz5 _ (.head _)))), trivial⟩, ?_⟩
  have lt7 : ts7.length ≤ ts5.length + 1 := by rcases p73 with e | ⟨T, e, _⟩ <;> rw [e] <;> simp
  with_unfolding_all refine ItemsRest.zero (fun hC tkC FC NC => ?_)
  dsimp only
  k_steps
  all_goals (try delta Stop)
  have e7 : ∀ y, y ≠ Str.ofString "worth" → y ≠ Str.ofString "name" → y ≠ Str.ofString "wide" → m7 y = m y := fun y y1 y2 y3 => (hm7 y y1 y2 y3).trans (e5 y y1 y2 y3)
  have tp5 : ts <+: ts5 := by rcases p53 with e | ⟨T, e, _⟩ <;> rw [e]; exact List.prefix_refl _; exact List.prefix_append _ _
  have tp7 : ts5 <+: ts7 := by rcases p73 with e | ⟨T, e, _⟩ <;> rw [e]; exact List.prefix_refl _; exact List.prefix_append _ _
  have np5 : ∀ (i : Nat) T, 1 ≤ i → ts5[i]? = some T → ¬ isOp T.op := by
    rcases p53 with e | ⟨T, e, hT⟩
    · rw [e]; exact nop
    · exact nop_snoc nop hT (.inr e)
  have np7 : ∀ (i : Nat) T, 1 ≤ i → ts7[i]? = some T → ¬ isOp T.op := by
    rcases p73 with e | ⟨T, e, hT⟩
    · rw [e]; exact np5
    · exact nop_snoc np5 hT (.inr e)
  have hP7 : ∀ v ∈ [v5] ++ [v7], Ent Z7 ts7 sw7 v := by
    intro v hv
    rcases List.mem_append.mp hv with hv | hv
    · rw [List.mem_singleton.mp hv]; exact p54.mono zz7 tp7 p71
    · rw [List.mem_singleton.mp hv]; exact p74
  have hs7 : SomeBits Z7 ([v5] ++ [v7]) := by
    obtain ⟨e, x0, x1, x2, x3, q, q1, q2, q3⟩ := p75
    exact ⟨e, x0, x1, x2, x3, q, List.mem_append_right _ q1, q2, q3⟩
  have pm : ∀ p ∈ qXS c [] fd cl pl L' ofd7 oF oS7 vs ([v5] ++ [v7]) n pn7 u1 u2 u3 un1 un2 un3, p ∈ pXS c [] fd cl pl L' ofd7 oF oS7 vs ([v5] ++ [v7]) n pn7 u1 u2 u3 un1 un2 un3 := sub_cons mem5 (sub_cons mem6 (sub_cons mem7 (sub_cons mem0 (sub_cons mem1 (sub_cons mem2 (sub_cons mem3 (sub_cons mem4 sub_nil)))))))
  have hnq : ((qXS c [] fd cl pl L' ofd7 oF oS7 vs ([v5] ++ [v7]) n pn7 u1 u2 u3 un1 un2 un3).map (·.1)).Nodup := by
    have pr : ([c.fn, c.fa, c.fr] ++ [fd, cl, L' + 1, L' + 1 + 1, pl]).Perm ([fd, cl, L' + 1, L' + 1 + 1, pl] ++ [c.fn, c.fa, c.fr]) := List.perm_append_comm
    exact pr.nodup_iff.mpr hnd
  refine law_m3 (xs := []) (Z := Z7) (pv := [v5] ++ [v7]) (unhid ho') B1 FC X1 T1 hdp hun XB TB (fun p hp => NC p ?_) (BS7.to2 (fun p hp => ⟨p, pm p hp, rfl⟩) (fun p hp => BS7.nt p (pm p hp)) fun p hp => .inl hp) hnq hoF hoS7 I7 O ZO7 OF OX hL ((e7 _ (by decide) (by decide) (by decide)).trans m1) ((e7 _ (by decide) (by decide) (by decide)).trans m2) ((e7 _ (by decide) (by decide) (by decide)).trans m3) hsl hsi hn0 hI hns hb0 hb1 hP7 hs7 np7 D67 p76 (by omega) (by simp) (by omega) (by omega) (by omega) (by omega) (by omega) (fun h' tk' m' F' => fin _ _ _ F') hE
  rcases List.mem_append.mp hp with hp | hp
  · exact List.mem_append_left _ (pm p hp)
  · exact List.mem_append_right _ hp
end
end
section
open PySem PySem.W PySem.Calls PyProof.Rows
theorem atKey_two {k1 k2 : List EK} {q1 q2 : Addr} {v1 v2 : Value} (hne : k1 ≠ k2) (k : List EK) (p : Addr × Value) (h : atKey ([(k1, q1, v1), (k2, q2, v2)] : List (List EK × Addr × Value)) k = some p) : (k = k1 ∧ p = (q1, v1)) ∨ (k = k2 ∧ p = (q2, v2)) := by
  unfold atKey at h
  by_cases h1 : k1 = k
  · subst h1; simp at h; exact .inl ⟨rfl, h.symm⟩
  · by_cases h2 : k2 = k
    · subst h2; simp [List.find?_cons, h1] at h; exact .inr ⟨rfl, h.symm⟩
    · simp [List.find?_cons, h1, h2] at h
/-- the bank as its making leaves it -/
theorem binv0 {w : World} {Z : List (Addr × Obj)} {onu obv : Obj} {q1 q2 ti Da Db : Addr} {u0 tt tf u2 ua uc u3 ub ud s0 s1 s2 s3 s4 s5 t1 t2 : Tok}
    (NU : NuIs PySem.Challenge.rw_nz0152_01.row.prog w Z onu [([.s (Str.ofString "true"), .t [], .i 0, .i 0], q1, .int 1 t1), ([.s (Str.ofString "false"), .t [], .i 0, .i 0], q2, .int 2 t2)]) (hdb : obv.IsDictOf (PySem.intKind PySem.Challenge.rw_nz0152_01.row.prog w) [])
    (h1 : (ti, tupO []) ∈ Z) (h2 : (Da, tupO []) ∈ Z) (h3 : (Db, tupO []) ∈ Z) :
    BInv w Z ⟨[.str (Str.ofString "Bool") s0, .str (Str.ofString "Int") s1, .str (Str.ofString "Real") s2], [.int 0 s3, .int 0 s4, .int 0 s5], [.str (Str.ofString "") u0, .str (Str.ofString "true") tt, .str (Str.ofString "false") tf], [.ref ti, .ref Da, .ref Db], [.int 0 u2, .int 0 ua, .int 0 uc], [.int 0 u3, .int 0 ub, .int 0 ud], 0, 0, 2, 2, 2, 2, onu, obv⟩
      [⟨Str.ofString "", [], 0, .i 0⟩, ⟨Str.ofString "true", [], 0, .i 0⟩, ⟨Str.ofString "false", [], 0, .i 0⟩] [0, 0, 0] := by
  refine ⟨⟨rfl, rfl, rfl, rfl, by decide⟩, fun i T hT => ?_, ⟨rfl, rfl, by decide⟩, fun j x hx => ?_, ⟨[], hdb, by simp, fun x v h => by simp [valueAt] at h, fun j x hx hj => ?_⟩, ⟨_, NU, by simp, fun k p h => ?_, fun i T hT hi => ?_⟩⟩
  · match i, hT with
    | 0, hT => cases hT; exact ⟨⟨_, rfl⟩, ⟨_, rfl, _, _, rfl, h1, .nil⟩, ⟨_, rfl⟩, ⟨_, rfl, _, rfl⟩⟩
    | 1, hT => cases hT; exact ⟨⟨_, rfl⟩, ⟨_, rfl, _, _, rfl, h2, .nil⟩, ⟨_, rfl⟩, ⟨_, rfl, _, rfl⟩⟩
    | 2, hT => cases hT; exact ⟨⟨_, rfl⟩, ⟨_, rfl, _, _, rfl, h3, .nil⟩, ⟨_, rfl⟩, ⟨_, rfl, _, rfl⟩⟩
    | n + 3, hT => simp at hT
  · match j, hx with
    | 0, hx => cases hx; exact ⟨⟨_, rfl⟩, ⟨_, _, rfl, by decide, fun h => absurd h (by decide)⟩, fun h => absurd h (by decide), fun _ => rfl⟩
    | 1, hx => cases hx; exact ⟨⟨_, rfl⟩, ⟨_, _, rfl, by decide, fun h => absurd h (by decide)⟩, fun h => absurd h (by decide), fun _ => rfl⟩
    | 2, hx => cases hx; exact ⟨⟨_, rfl⟩, ⟨_, _, rfl, by decide, fun h => absurd h (by decide)⟩, fun h => absurd h (by decide), fun _ => rfl⟩
    | n + 3, hx => simp at hx
  · match j, hx, hj with
    | n + 3, hx, _ => simp at hx
  · rcases atKey_two (by decide) k p h with ⟨e1, e2⟩ | ⟨e1, e2⟩
    · exact ⟨1, _, t1, rfl, by decide, by rw [e2]; rfl, e1⟩
    · exact ⟨2, _, t2, rfl, by decide, by rw [e2]; rfl, e1⟩
  · match i, hT, hi with
    | 1, hT, _ => cases hT; exact ⟨q1, t1, rfl⟩
    | 2, hT, _ => cases hT; exact ⟨q2, t2, rfl⟩
    | n + 3, hT, _ => simp at hT
theorem nu_strip {w : World} {q6 Db q8 Da ti sn sw fn fa fr cl fd L1 L2 : Addr} {us6 us8 a1 a2 a3 a4 a5 vs : List Value} {b1 b2 b3 b4 b5 n : Nat} {ofd oS oF o : Obj} {xs : List (List EK × Addr × Value)} (hd : ∀ us, ofd ≠ tupO us) (hs : ∀ us, oS ≠ tupO us) (hf : ∀ us, oF ≠ tupO us)
    (x : NuIs PySem.Challenge.rw_nz0152_01.row.prog w ((q6, tupO us6) :: (Db, tupO []) :: (q8, tupO us8) :: (Da, tupO []) :: (ti, tupO []) :: (sn, LO a1 b1) :: (sw, LO a2 b2) :: (fn, LO a3 b3) :: (fa, LO a4 b4) :: (fr, LO a5 b5) :: (cl, LO vs n) :: (fd, ofd) :: (L2, oS) :: (L1, oF) :: []) o xs) :
    NuIs PySem.Challenge.rw_nz0152_01.row.prog w ((q6, tupO us6) :: (Db, tupO []) :: (q8, tupO us8) :: (Da, tupO []) :: (ti, tupO []) :: []) o xs := by
  refine x.monoT fun a us h => ?_
  simp only [List.mem_cons, List.not_mem_nil, or_false, Prod.mk.injEq] at h ⊢
  rcases h with h | h | h | h | h | h | h | h | h | h | h | h | h | h
  · exact .inl h
  · exact .inr (.inl h)
  · exact .inr (.inr (.inl h))
  · exact .inr (.inr (.inr (.inl h)))
  · exact .inr (.inr (.inr (.inr h)))
  all_goals first | exact absurd h.2.symm lo_no_tup | exact absurd h.2.symm (hd us) | exact absurd h.2.symm (hs us) | exact absurd h.2.symm (hf us)
end
section
open PySem PySem.W PySem.Calls PyProof.Rows
set_option hygiene false in
local macro_rules | `(tactic| k_lt $h) => `(tactic| first
  | ((have nn : @LT.lt Nat _ d' _ := $h _ mem1); (have cc := $h _ (in2 _ (hin _ mem0))); clear $h)
  | ((have nn : @LT.lt Nat _ d' _ := $h _ mem2); (have cc := $h _ mem0); clear $h)
  | ((have nn : @LT.lt Nat _ d' _ := $h _ mem3); (have cc := $h _ mem2); clear $h))
set_option hygiene false in
local macro_rules | `(tactic| walk_at "setAttr ref") => `(tactic| (k_here; k_dflt (first | (refine' set_hide (by k_asm) (by k_asm) (by k_asm) mem0 mem1 (by first | exact hes | exact rfl) in2 hne (by exact Nat.ne_of_gt (by with_reducible assumption)) hin (by k_is) (by k_is) (by k_is) (by k_is) (by k_get) (by k_put) (by exact Nat.le_of_ble_eq_true rfl) ?_; k_whole) | (refine' set_hide (by k_asm) (by k_asm) (by k_asm) mem1 mem2 (by first | exact hes | exact rfl) (sub_cons mem0 in3) (ne_cons (Nat.ne_of_gt (by with_reducible assumption)) hne) (by exact Nat.ne_of_gt (by with_reducible assumption)) (sub_cons mem0 fun p hp => in1 p (hin p hp)) (by k_is) (by k_is) (by k_is) (by k_is) (by k_get) (by k_put) (by exact Nat.le_of_ble_eq_true rfl) ?_; k_whole) | (refine' set_hide (by k_asm) (by k_asm) (by k_asm) mem2 mem3 (by first | exact hes | exact rfl) (sub_cons mem0 (sub_cons mem1 in4)) (ne_cons (Nat.ne_of_gt (by with_reducible assumption)) (ne_cons (Nat.ne_of_gt (by with_reducible assumption)) hne)) (by exact Nat.ne_of_gt (by with_reducible assumption)) (sub_cons mem0 (sub_cons mem1 fun p hp => in2 p (hin p hp))) (by k_is) (by k_is) (by k_is) (by k_is) (by k_get) (by k_put) (by exact Nat.le_of_ble_eq_true rfl) ?_; k_whole) | (refine' set_hide (by k_asm) (by k_asm) (by k_asm) mem3 mem4 (by first | exact hes | exact rfl) (sub_cons mem0 in5) (ne_cons (Nat.ne_of_gt (by with_reducible assumption)) hne) (by exact Nat.ne_of_gt (by with_reducible assumption)) (sub_cons mem0 fun p hp => in1 p (hin p hp)) (by k_is) (by k_is) (by k_is) (by k_is) (by k_get) (by k_put) (by exact Nat.le_of_ble_eq_true rfl) ?_; k_whole)); clear hin hne; (try clear hes); intro h' W' es' F' hin hne hes N'; (try k_sweep)))
set_option hygiene false in
local macro_rules | `(tactic| walk_at "eval Call Attribute") => `(tactic| (k_here; subst hes))
set_option hygiene false in
local macro_rules | `(tactic| walk_at "eval Dict nil nil") => `(tactic| (k_here; refine stop_in ?_))
set_option hygiene false in
local macro_rules | `(tactic| walk_at "call ref") => `(tactic| with_reducible refine st_any ?_)
set_option hygiene false in
local macro_rules | `(tactic| walk_at "newList") => `(tactic| (k_here; refine stop_in ?_))
set_option hygiene false in
local macro_rules | `(tactic| walk_at "execs cons") => `(tactic| with_reducible refine st_for ?_)
section
variable {prog : Program} {w : World} {A : Around} {E : Value → Shared → Prop} {s : Shared} {K : Frag} {x C dx L : Addr} {h₀ : Heap} {m : Str → Option Value} {news V G : List (Addr × Obj)} {es es0 es1 : List DictEntry} {n n' : Nat} {name : Str} {v : Value}
/-- an attribute stored; what the ledger bears beside goes out of sight -/
theorem set_hide {Q : Unit → Shared → Prop} (F : Fr h₀ L s.heap m) (X₀ : K.In h₀) (N : News h₀ L s.heap news) (h1 : (x, instObj C dx) ∈ news) (h2 : (dx, dictOf es n) ∈ news) (he : es = es0) (hV : ∀ p ∈ V, p ∈ news) (hV2 : ∀ p ∈ V, p.1 ≠ dx) (hx : @Ne Nat x dx) (hG : ∀ p ∈ G, p ∈ V)
    (hs : findIn K (.ref C) "__setattr__" = some (some (.builtin "object.__setattr__"))) (hp : plainOver K C = true) (ht : takerIn K C name = some none) (hh : hasDictIn K C = true) (hl : (getL name es0).isSome = true)
    (e : (putL name (PyData.keyHash w.params name) (.str name (s.toks + 1)) v es0, putN name es0 n) = (es1, n')) (hz : es1.length ≤ 1000)
    (h : ∀ h' W' es', Fr h₀ L h' m → (∀ p ∈ G, p ∈ W') → (∀ p ∈ W', p.1 ≠ dx) → es' = es1 → News h₀ L h' ((x, instObj C dx) :: (dx, dictOf es' n') :: W') → Q () { s with heap := h', toks := s.toks + 2 }) : wpAny (model prog w) A (setAttr (.ref x) name v) Q E s := by
  subst he
  exact set_dict F X₀ (fun p hp => N p (sub_cons h1 (sub_cons h2 hV) p hp)) (InstAt.of_news N h1 h2) rfl hs hp ht hh hl e (.tail hx (.head hV2)) hz fun h' F' N' => h h' V _ F' hG hV2 rfl N'
end
theorem hide_tail {h₀ h : Heap} {L d : Addr} {a b x : Addr × Obj} {W : List (Addr × Obj)} (N : News h₀ L h (a :: b :: W)) (hx : x ∈ W) (hne : ∀ p ∈ W, p.1 ≠ d) : ∃ W2, (∀ p ∈ x :: W, p ∈ W2) ∧ (∀ p ∈ W2, p.1 ≠ d) ∧ News h₀ L h (a :: b :: W2) := ⟨W, sub_cons hx fun _ h => h, hne, N⟩
theorem third_obj {h₀ h : Heap} {L a : Addr} {o : Obj} {x y : Addr × Obj} {W : List (Addr × Obj)} (_ : News h₀ L h (x :: y :: (a, o) :: W)) : ∃ z, z = o := ⟨o, rfl⟩
theorem second_of {h₀ h : Heap} {L a : Addr} {o : Obj} {x : Addr × Obj} {W : List (Addr × Obj)} (_ : News h₀ L h (x :: (a, o) :: W)) : ∃ z, z = a := ⟨a, rfl⟩
theorem second_obj {h₀ h : Heap} {L a : Addr} {o : Obj} {x : Addr × Obj} {W : List (Addr × Obj)} (_ : News h₀ L h (x :: (a, o) :: W)) : ∃ z, z = o := ⟨o, rfl⟩
noncomputable def Asc : List Nat → Prop
  | a :: b :: l => a < b ∧ Asc (b :: l)
  | _ => True
theorem asc_lo : ∀ {a : Nat} {l : List Nat}, Asc (a :: l) → ∀ x ∈ l, a < x
  | _, [], _, _, h => nomatch h
  | _, b :: l, h, x, hx => (List.mem_cons.mp hx).elim (fun e => e ▸ h.1) fun hx => Nat.lt_trans h.1 (asc_lo h.2 x hx)
theorem asc_pw : ∀ {l : List Nat}, Asc l → l.Pairwise (· < ·)
  | [], _ => .nil
  | [_], _ => .cons (fun _ h => nomatch h) .nil
  | _ :: _ :: _, h => .cons (asc_lo h) (asc_pw h.2)
theorem nd8 {a b c d e f g h : Nat} (h1 : a < b) (h2 : b < c) (h3 : c < d) (h4 : d < e) (h5 : e < f) (h6 : f < g) (h7 : g < h) : [c, d, a, b, h, e, f, g].Nodup :=
  (List.Perm.append (List.perm_append_comm (l₁ := [c, d]) (l₂ := [a, b])) (List.perm_append_comm (l₁ := [h]) (l₂ := [e, f, g]))).nodup_iff.mpr ((asc_pw (l := [a, b, c, d, e, f, g, h]) ⟨h1, h2, h3, h4, h5, h6, h7, trivial⟩).imp fun h => Nat.ne_of_lt h)
section
variable {c : BA} {Z : List (Addr × Obj)} {a : Nat} {o : Obj}
theorem off_nil9 : c.Off [] := ⟨List.forall_mem_nil _, List.forall_mem_nil _, List.forall_mem_nil _, List.forall_mem_nil _, List.forall_mem_nil _, List.forall_mem_nil _, List.forall_mem_nil _, List.forall_mem_nil _, List.forall_mem_nil _, List.forall_mem_nil _⟩
theorem off_at (x : c.Off Z) (h1 : a ≠ c.bk) (h2 : a ≠ c.bd) (h3 : a ≠ c.sn) (h4 : a ≠ c.sw) (h5 : a ≠ c.to) (h6 : a ≠ c.ta) (h7 : a ≠ c.ts) (h8 : a ≠ c.td) (h9 : a ≠ c.nu) (h10 : a ≠ c.bv) : c.Off ((a, o) :: Z) :=
  ⟨all_cons h1 x.bk, all_cons h2 x.bd, all_cons h3 x.sn, all_cons h4 x.sw, all_cons h5 x.to, all_cons h6 x.ta, all_cons h7 x.ts, all_cons h8 x.td, all_cons h9 x.nu, all_cons h10 x.bv⟩
theorem off_nb (x : c.Off Z) (O : c.Ord) (h : c.nu < a) (k : a < c.bv) : c.Off ((a, o) :: Z) :=
  have g : ∀ {b : Nat}, b < c.nu → a ≠ b := fun q => Nat.ne_of_gt (Nat.lt_trans q h)
  off_at x (g (l18 O)) (g (l08 O)) (g (l28 O)) (g (l38 O)) (g (l48 O)) (g (l58 O)) (g (l68 O)) (g (l78 O)) (Nat.ne_of_gt h) (Nat.ne_of_lt k)
theorem off_tt (x : c.Off Z) (O : c.Ord) (h : c.to < a) (k : a < c.ta) : c.Off ((a, o) :: Z) :=
  have g : ∀ {b : Nat}, b < c.to → a ≠ b := fun q => Nat.ne_of_gt (Nat.lt_trans q h)
  have f : ∀ {b : Nat}, c.ta < b → a ≠ b := fun q => Nat.ne_of_lt (Nat.lt_trans k q)
  off_at x (g (l14 O)) (g (l04 O)) (g (l24 O)) (g (l34 O)) (Nat.ne_of_gt h) (Nat.ne_of_lt k) (f (l56 O)) (f (l57 O)) (f (l58 O)) (f (l59 O))
theorem off_st (x : c.Off Z) (O : c.Ord) (h : c.sw < a) (k : a < c.to) : c.Off ((a, o) :: Z) :=
  have g : ∀ {b : Nat}, b < c.sw → a ≠ b := fun q => Nat.ne_of_gt (Nat.lt_trans q h)
  have f : ∀ {b : Nat}, c.to < b → a ≠ b := fun q => Nat.ne_of_lt (Nat.lt_trans k q)
  off_at x (g (l13 O)) (g (l03 O)) (g (l23 O)) (Nat.ne_of_gt h) (Nat.ne_of_lt k) (f (l45 O)) (f (l46 O)) (f (l47 O)) (f (l48 O)) (f (l49 O))
end
theorem dlek {d a b : Nat} (k : Nat) (h : d ≤ a) (q : Nat.ble (a + k) b = true) : d + k ≤ b := Nat.le_trans (Nat.add_le_add_right h k) (Nat.le_of_ble_eq_true q)
section
variable {w : World} {mean : ExcName → Option Value} {mg mb : Str → Option Value} {dp un : Nat} {gd : Option (List Code)} {env : Env} {outer : List Env} {A₀ : Around} {base h₀ g₀ : Heap} {L : Addr} {m : Str → Option Value} {s : Shared} {Q E : Value → Shared → Prop}
    {fd cl sa : Nat} {ofd oF oS : Obj} {vs vs0 : List Value} {ns ns0 : List Int} {n : Nat} {bl k : Int} {tk0 tb : Tok} {cS : Option Value}
    {fa : Addr} {cdx : Value} {name qual : Str} {params : Arguments} {body : List Stmt} {scope : Scope} {dV kV doc pm cdv ct oc9 : Value} {an od : Option Addr} {osl : Array (Option Value)} {qk : Flow → Shared → Prop} {L' : Addr}
set_option maxHeartbeats 20000000 in
theorem law_m1 (ho : (heap w.params).lookup 741 = some ⟨oc9, od, .func (fnOf name qual params body scope dV kV doc pm an cdv ct), osl⟩) (B1 : Below ({ handled := none, depth := dp, frames := some [], guards := gd, units := un } : Around) base [] h₀) (F1 : Fr h₀ L' s.heap m) (X1 : (heap w.params).In h₀) (T1 : Top view (looseW view []) mean mg mb h₀) (hdp : dp ≤ 410) (hun : un ≤ 300)
    (XB : (heap w.params).In base) (TB : Top view (looseW view []) mean mg mb base)
    (N1 : News h₀ L' s.heap [(cl, LO vs n), (fd, ofd), (L' + 1 + 1, oS), (L' + 1, oF)]) (hoF : oF.data = .cell (some (.ref fd))) (hoS : oS.data = .cell cS) (OX : fd < cl ∧ @LT.lt Nat _ (L' + 1 + 1) fd)
    (m3 : m (Str.ofString "script") = some (.ref sa)) (hsl : h₀.IsList sa vs0.toArray) (hsi : IntsAre vs0 ns0) (hn0 : ns0.length ≤ 63)
    (hI : IntsAre vs ns) (hns : ns.length ≤ 40) (hb0 : 0 ≤ bl) (hb1 : bl ≤ 10000)
    (D6 : ofd.IsDictOf (PySem.strKind PySem.Challenge.rw_nz0152_01.row.prog w) (feedKvs cl k bl tk0 tb)) (hk0 : 0 ≤ k) (hk1 : k ≤ 1)
    (fin : ∀ h' tk' m', Fr h₀ L' h' m' → qk (.ret (.bool true)) { s with heap := h', toks := tk' }) (hE : PassesOwn (model PySem.Challenge.rw_nz0152_01.row.prog w) (({ handled := none, depth := dp, frames := some [], guards := gd, units := un } : Around).deeper (envOfC qual scope L' fa cdx)) (envOfC qual scope L' fa cdx) E) :
    wpAny (model PySem.Challenge.rw_nz0152_01.row.prog w) (({ handled := none, depth := dp, frames := some [], guards := gd, units := un } : Around).deeper (envOfC qual scope L' fa cdx)) (execs (body.drop 1) (envOfC qual scope L' fa cdx)) qk E s := by
  revert hE
  k_dflt (apply body_at ho)
  case h' => k_is
  intro ho'
  clear ho
  intro hE
  have X1 := X1
  have T1 := T1
  obtain ⟨Y0, hin, hN1⟩ : ∃ Y0, (∀ p ∈ [(cl, LO vs n), (fd, ofd), (L' + 1 + 1, oS), (L' + 1, oF)], p ∈ Y0) ∧ News h₀ L' s.heap Y0 := ⟨_, fun _ h => h, N1⟩
  clear N1
  simp only [List.drop]
  try k_fold
  k_steps
  all_goals (try delta Stop)
  k_dflt (refine' call_cls (by k_asm) (by k_asm) (by k_asm) (by k_is) (by k_is) (by k_is) ?_)
  intro x' d' h' F' N' l1 l2
  have cF1 := l1 _ (hin _ mem0)
  have cF2 := l1 _ (hin _ mem1)
  have cF3 := l1 _ (hin _ mem2)
  have cF4 := l1 _ (hin _ mem3)
  have hne : ∀ p ∈ Y0, p.1 ≠ d' := fun p hp => Nat.ne_of_lt (l1 p hp)
  try k_lt2 l2
  k_dflt (refine' ks_code_super ?k1 ?k2 ?k3 ?k4 ?k5 ?kA ?kF ?kK ?k6 ?k7 ?k8 ?k9 ?kB ?_ ?c1 ?c2 ?c3 ?c4)
  case kA => exact rfl
  case kF => first | exact rfl | assumption
  case kK => first | exact rfl | assumption
  case k1 => k_asm
  case k2 => k_asm
  case k3 => k_asm
  case k4 => k_asm
  case k5 => k_asm
  case k6 => k_is
  case k7 => k_is
  case k8 => ktr_room
  case k9 => exact BindsTo.of_eq rfl
  case kB => exact locs rfl
  case c1 => decide
  case c2 => exact rfl
  case c3 => exact rfl
  case c4 => exact rfl
  intro gK LK hK FGK FK NK BK XK TK lK
  try k_lt lK
  try dsimp only
  try k_lift BK
  k_steps
  all_goals (try delta Stop)
  k_dflt (refine' call_meth (by k_asm) (by k_mem) ?_)
  k_dflt (refine' code_def ?k1 ?k2 ?k3 ?k4 ?k5 ?kA ?kF ?kK ?k6 ?k7 ?k8 ?k9 ?kB ?_ ?c2 ?c3 ?c4 ?c5)
  case kA => exact rfl
  case kF => first | exact rfl | assumption
  case kK => first | exact rfl | assumption
  case k1 => k_asm
  case k2 => k_asm
  case k3 => k_asm
  case k4 => k_asm
  case k5 => k_asm
  case k6 => k_is
  case k7 => k_is
  case k8 => ktr_room
  case k9 => exact BindsTo.of_eq rfl
  case kB => exact locs rfl
  case c2 => exact rfl
  case c3 => exact rfl
  case c4 => exact rfl
  case c5 => decide
  intro gM LM hM FGM FM NM BM XM TM
  try dsimp only
  try k_fold
  k_steps
  all_goals (try delta Stop)
  k_dflt (refine' newList_L (by k_asm) (by k_asm) (by simp) ?_)
  intro Lk _ _ _ lLk
  k_lt lLk
  try k_sweep
  k_steps
  all_goals (try delta Stop)
  k_dflt (refine' newList_L (by k_asm) (by k_asm) (by simp) ?_)
  intro Lk2 _ _ _ lLk2
  k_lt lLk2
  try k_sweep
  k_steps
  all_goals (try delta Stop)
  k_dflt (refine' newList_L (by k_asm) (by k_asm) (by simp) ?_)
  intro Lk3 _ _ _ lLk3
  k_lt lLk3
  try k_sweep
  k_steps
  all_goals (try delta Stop)
  k_dflt (refine' newList_L (by k_asm) (by k_asm) (by simp) ?_)
  intro Lk4 _ _ _ lLk4
  k_lt lLk4
  try k_sweep
  k_steps
  all_goals (try delta Stop)
  k_dflt (refine' newList_L (by k_asm) (by k_asm) (by simp) ?_)
  intro Lk5 _ _ _ lLk5
  k_lt lLk5
  try k_sweep
  k_steps
  all_goals (try delta Stop)
  k_dflt (refine' newList_L (by k_asm) (by k_asm) (by simp) ?_)
  intro Lk6 _ _ _ lLk6
  k_lt lLk6
  try k_sweep
  k_steps
  all_goals (try delta Stop)
  k_dflt (refine' newList_L (by k_asm) (by k_asm) (by simp) ?_)
  intro Lk7 _ _ _ lLk7
  k_lt lLk7
  try k_sweep
  k_steps
  all_goals (try delta Stop)
  k_dflt (refine' newList_L (by k_asm) (by k_asm) (by simp) ?_)
  intro Lk8 _ _ _ lLk8
  k_lt lLk8
  try k_sweep
  k_steps
  all_goals (try delta Stop)
  k_dflt (refine' newList_L (by k_asm) (by k_asm) (by simp) ?_)
  intro Lk9 _ _ _ lLk9
  k_lt lLk9
  try k_sweep
  k_steps
  all_goals (try delta Stop)
  k_dflt (refine' newDict_K (by k_asm) (by k_asm) (TopRead.nolimit (by k_asm)) ?_)
  intro nu hnu onu _ _ lnu lon hdn q1 q2 q3
  k_lt lnu
  try k_sweep
  k_steps
  all_goals (try delta Stop)
  rename Fr gM LM _ _ => F9
  rename News gM LM _ _ => N9
  have c1 : @LT.lt Nat _ cl d' := cF1
  have cf : @LT.lt Nat _ fd d' := cF2
  have cS : @LT.lt Nat _ (L' + 1 + 1) d' := cF3
  have cF : @LT.lt Nat _ (L' + 1) d' := cF4
  have c3 : @LT.lt Nat _ x' Lk := by assumption
  have c4 : @LT.lt Nat _ Lk Lk2 := by assumption
  have c5 : @LT.lt Nat _ Lk2 Lk3 := by assumption
  have c6 : @LT.lt Nat _ Lk3 Lk4 := by assumption
  have c7 : @LT.lt Nat _ Lk4 Lk5 := by assumption
  have c8 : @LT.lt Nat _ Lk5 Lk6 := by assumption
  have c9 : @LT.lt Nat _ Lk6 Dk := by assumption
  have c10 : @LT.lt Nat _ Dk Lk7 := by assumption
  have c11 : @LT.lt Nat _ Lk7 Lk8 := by assumption
  have c12 : @LT.lt Nat _ Lk8 Lk9 := by assumption
  have c13 : @LT.lt Nat _ Lk9 nu := by assumption
  have c14 : @LT.lt Nat _ nu Dk2 := by assumption
  have b1 := Nat.lt_trans l2 c3; have b2 := Nat.lt_trans b1 c4; have b3 := Nat.lt_trans b2 c5; have b4 := Nat.lt_trans b3 c6; have b5 := Nat.lt_trans b4 c7; have b6 := Nat.lt_trans b5 c8
  have a4 := Nat.lt_trans c7 c8; have a3 := Nat.lt_trans c6 a4; have a2 := Nat.lt_trans c5 a3; have a1 := Nat.lt_trans c4 a2
  have g7 := Nat.lt_trans c9 c10; have g8 := Nat.lt_trans g7 c11; have g9 := Nat.lt_trans g8 c12; have gn := Nat.lt_trans g9 c13
  have e8 := Nat.lt_trans c10 c11; have e9 := Nat.lt_trans e8 c12; have en := Nat.lt_trans e9 c13
  have i8 := Nat.lt_trans c12 c13; have i7 := Nat.lt_trans c11 i8
  have dn := Nat.lt_trans b6 gn
  obtain ⟨kt, ut, NX⟩ : ∃ kt ut : Nat → Tok, News gM LM _ ((d', iDict1 w.params Lk Lk2 Lk3 Lk4 Lk5 Lk6 Lk7 Lk8 Lk9 nu kt 11) :: (Lk6, LO [.str (Str.ofString "") (ut 0)] 0) :: (Lk7, LO [.ref Dk] 0) :: (Lk8, LO [.int 0 (ut 1)] 0) :: (Lk9, LO [.int 0 (ut 2)] 0) :: [(Lk5, LO [] 0), (Lk4, LO [] 0), (Lk3, LO [] 0), (Lk2, LO [.int 0 (ut 6), .int 0 (ut 7), .int 0 (ut 8)] 0), (Lk, LO [.str (Str.ofString "Bool") (ut 3), .str (Str.ofString "Int") (ut 4), .str (Str.ofString "Real") (ut 5)] 0), (cl, LO vs n), (fd, ofd), (L' + 1 + 1, oS), (L' + 1, oF)]) := ⟨fun i => [_, _, _, _, _, _, _, _, _, _, _, _].getD i 0, fun i => [_, _, _, _, _, _, _, _, _].getD i 0,
    news_sub N9 (sub_cons mem2 (sub_cons (in3 _ (hin _ mem5)) (sub_cons (in3 _ (hin _ mem3)) (sub_cons (in3 _ (hin _ mem2)) (sub_cons (in3 _ (hin _ mem1)) fun p hp => in3 p (hin p (in6 p hp)))))))⟩
  obtain ⟨Y, hYe, yin, yt, yl, yd⟩ : ∃ Y : List (Addr × Obj), [(Lk5, LO [] 0), (Lk4, LO [] 0), (Lk3, LO [] 0), (Lk2, LO [.int 0 (ut 6), .int 0 (ut 7), .int 0 (ut 8)] 0), (Lk, LO [.str (Str.ofString "Bool") (ut 3), .str (Str.ofString "Int") (ut 4), .str (Str.ofString "Real") (ut 5)] 0), (cl, LO vs n), (fd, ofd), (L' + 1 + 1, oS), (L' + 1, oF)] = Y ∧ (∀ p ∈ [(Lk5, LO [] 0), (Lk4, LO [] 0), (Lk3, LO [] 0), (Lk2, LO [.int 0 (ut 6), .int 0 (ut 7), .int 0 (ut 8)] 0), (Lk, LO [.str (Str.ofString "Bool") (ut 3), .str (Str.ofString "Int") (ut 4), .str (Str.ofString "Real") (ut 5)] 0), (cl, LO vs n), (fd, ofd), (L' + 1 + 1, oS), (L' + 1, oF)], p ∈ Y) ∧ (∀ p ∈ Y, ∀ us, p.2 ≠ tupO us) ∧ (∀ p ∈ Y, @LT.lt Nat _ p.1 Lk6) ∧ (∀ p ∈ Y, @Ne Nat p.1 d') := ⟨_, rfl, fun _ h => h, all_cons (fun us => lo_no_tup) (all_cons (fun us => lo_no_tup) (all_cons (fun us => lo_no_tup) (all_cons (fun us => lo_no_tup) (all_cons (fun us => lo_no_tup) (all_cons (fun us => lo_no_tup) (all_cons (dict_no_tup D6) (all_cons (cell_no_tup hoS) (all_cons (cell_no_tup hoF) fun _ h => nomatch h)))))))),
    all_cons c8 (all_cons a4 (all_cons a3 (all_cons a2 (all_cons a1 (all_cons (Nat.lt_trans c1 b6) (all_cons (Nat.lt_trans cf b6) (all_cons (Nat.lt_trans cS b6) (all_cons (Nat.lt_trans cF b6) fun _ h => nomatch h)))))))),
    all_cons (Nat.ne_of_gt b5) (all_cons (Nat.ne_of_gt b4) (all_cons (Nat.ne_of_gt b3) (all_cons (Nat.ne_of_gt b2) (all_cons (Nat.ne_of_gt b1) (all_cons (Nat.ne_of_lt c1) (all_cons (Nat.ne_of_lt cf) (all_cons (Nat.ne_of_lt cS) (all_cons (Nat.ne_of_lt cF) fun _ h => nomatch h))))))))⟩
  rw [hYe] at NX
  clear hYe
  have z5 : ∀ p ∈ (Dk2, tupO []) :: (Dk, tupO []) :: Y, p.1 ≠ Lk6 := all_cons (Nat.ne_of_gt (Nat.lt_trans gn c14)) (all_cons (Nat.ne_of_gt c9) fun p hp => Nat.ne_of_lt (yl p hp))
  have zk : ∀ {a : Nat}, a < Dk2 → Dk < a → Lk6 < a → ∀ p ∈ (Dk2, tupO []) :: (Dk, tupO []) :: Y, @Ne Nat p.1 a := fun a1 a2 a3 => all_cons (Nat.ne_of_gt a1) (all_cons (Nat.ne_of_lt a2) fun p hp => Nat.ne_of_lt (Nat.lt_trans (yl p hp) a3))
  have z6 := zk (Nat.lt_trans i7 c14) c10 g7
  have z7 := zk (Nat.lt_trans i8 c14) e8 g8
  have z8 := zk (Nat.lt_trans c13 c14) e9 g9
  have z9 := zk c14 en gn
  have NI : News gM LM _ (iLed1 w.params x' d' Lk Lk2 Lk3 Lk4 Lk5 Lk6 Lk7 Lk8 Lk9 nu kt 11 [.str (Str.ofString "") (ut 0)] [.ref Dk] [.int 0 (ut 1)] [.int 0 (ut 2)] 0 0 0 0 onu ((Dk2, tupO []) :: (Dk, tupO []) :: Y)) := nc N9 (nc NX (nc NX (nc NX (nc NX (nc NX (nc N9 (nc N9 (nc N9 (news_sub NX in5) (in3 _ (hin _ mem4))) mem0) (in3 _ (hin _ mem0))) mem4) mem3) mem2) mem1) mem0) mem1
  clear N9 NX zk hin hne
  refine' make_i1 (Z := (Dk2, tupO []) :: (Dk, tupO []) :: Y) (al := []) (dk := .i 0) BM ?zF XM TM rfl rfl ?za1 ?za2 NI (nu_nil hdn) ⟨?zo1, ?zo2, g7, c11, c12, c13⟩ lon z5 z6 z7 z8 z9 ?zh1 ⟨_, _, rfl, .head _, .nil⟩ ⟨_, rfl⟩ ?zh2 ?zh3 ?zh4 ?zh5 ?zh6 ?zh7 fun h8 tk8 t8' q8 onu8 us8 F8 N8 NU8 hq8 hz8 => ?_
  case zF => exact F9
  case za1 => first | exact dlek 4 hdp rfl | exact dlek 5 hdp rfl | exact dlek 6 hdp rfl
  case za2 => first | exact dlek 12 hun rfl | exact dlek 10 hun rfl | exact dlek 11 hun rfl
  case zo1 => exact l2
  case zo2 => exact Nat.lt_trans c3 (Nat.lt_trans c4 (Nat.lt_trans c5 (Nat.lt_trans c6 (Nat.lt_trans c7 c8))))
  case zh1 => decide +kernel
  case zh2 => rfl
  case zh3 => simp
  case zh4 => simp
  case zh5 => simp
  case zh6 => simp
  case zh7 => simp
  clear F9 NI
  have dq8 : @LT.lt Nat _ d' q8 := Nat.lt_trans dn hq8
  have N7 : News gM LM h8 ((x', instObj 677 d') :: (d', iDict1 w.params Lk Lk2 Lk3 Lk4 Lk5 Lk6 Lk7 Lk8 Lk9 nu kt 11) :: (Lk6, LO ([Value.str (Str.ofString "") (ut 0)] ++ [Value.str (Str.ofString "true") _]) 1) :: (Lk7, LO ([Value.ref Dk] ++ [Value.ref Dk2]) 1) :: (Lk8, LO ([Value.int 0 (ut 1)] ++ [Value.int 0 _]) 1) :: (Lk9, LO ([Value.int 0 (ut 2)] ++ [Value.int 0 _]) 1) :: (nu, onu8) :: (q8, tupO us8) :: (Dk2, tupO []) :: (Dk, tupO []) :: Y) := N8
  clear N8
  have b7 := Nat.lt_trans b6 g7; have b8 := Nat.lt_trans b6 g8; have b9 := Nat.lt_trans b6 g9
  have b0 := Nat.lt_trans dn c14; have ba := Nat.lt_trans b6 c9
  have hn1 : ∀ p ∈ (Dk2, tupO []) :: (Dk, tupO []) :: Y, p.1 ≠ d' := all_cons (Nat.ne_of_gt b0) (all_cons (Nat.ne_of_gt ba) yd)
  obtain ⟨W2, hin, hne, N7⟩ := hide_tail (x := (q8, tupO us8)) (d := d') N7 mem5 (all_cons (Nat.ne_of_gt b6) (all_cons (Nat.ne_of_gt b7) (all_cons (Nat.ne_of_gt b8) (all_cons (Nat.ne_of_gt b9) (all_cons (Nat.ne_of_gt dn) (all_cons (Nat.ne_of_gt dq8) hn1))))))
  rw [show (([Value.str (Str.ofString "") (ut 0)].length : Nat) : Int) = 1 from rfl]
  dsimp only
  k_steps
  all_goals (try delta Stop)
  rename Fr gM LM _ _ => F9
  rename News gM LM _ _ => N9
  obtain ⟨kt2, ut2, NX⟩ : ∃ kt2 ut2 : Nat → Tok, News gM LM _ ((d', iDict2 w.params Lk Lk2 Lk3 Lk4 Lk5 Lk6 Lk7 Lk8 Lk9 nu kt2 12) :: (Lk6, LO [.str (Str.ofString "") (ut 0), .str (Str.ofString "true") (ut2 0)] 1) :: (Lk7, LO [.ref Dk, .ref Dk2] 1) :: (Lk8, LO [.int 0 (ut 1), .int 0 (ut2 1)] 1) :: (Lk9, LO [.int 0 (ut 2), .int 0 (ut2 2)] 1) :: (nu, onu8) :: (Dk3, tupO []) :: (q8, tupO us8) :: (Dk2, tupO []) :: (Dk, tupO []) :: Y) := ⟨fun i => [_, _, _, _, _, _, _, _, _, _, _, _, _, _].getD i 0, fun i => [_, _, _].getD i 0, news_sub N9 (sub_cons mem2 (sub_cons (in3 _ (hin _ mem1)) (sub_cons (in3 _ (hin _ mem2)) (sub_cons (in3 _ (hin _ mem3)) (sub_cons (in3 _ (hin _ mem4)) (sub_cons (in3 _ (hin _ mem5)) (sub_cons mem0 (sub_cons (in3 _ (hin _ mem6)) (sub_cons (in3 _ (hin _ mem7)) (sub_cons (in3 _ (hin _ mem8)) fun p hp => in3 p (hin p (in9 p hp))))))))))))⟩
  have NI : News gM LM _ (iLed2 w.params x' d' Lk Lk2 Lk3 Lk4 Lk5 Lk6 Lk7 Lk8 Lk9 nu kt2 12 [.str (Str.ofString "") (ut 0), .str (Str.ofString "true") (ut2 0)] [.ref Dk, .ref Dk2] [.int 0 (ut 1), .int 0 (ut2 1)] [.int 0 (ut 2), .int 0 (ut2 2)] 1 1 1 1 onu8 ((Dk3, tupO []) :: (q8, tupO us8) :: (Dk2, tupO []) :: (Dk, tupO []) :: Y)) := nc N9 NX mem1
  have c15 : @LT.lt Nat _ q8 Dk3 := by assumption
  have k3 : @LT.lt Nat _ nu Dk3 := Nat.lt_trans hq8 c15
  clear N9 NX hin hne
  have dd3 : @LT.lt Nat _ d' Dk3 := Nat.lt_trans dn k3
  have y2 : ∀ {a : Nat}, a < nu → (∀ p ∈ (Dk2, tupO []) :: (Dk, tupO []) :: Y, @Ne Nat p.1 a) → ∀ p ∈ (Dk3, tupO []) :: (q8, tupO us8) :: (Dk2, tupO []) :: (Dk, tupO []) :: Y, @Ne Nat p.1 a := fun h z => all_cons (Nat.ne_of_gt (Nat.lt_trans h k3)) (all_cons (Nat.ne_of_gt (Nat.lt_trans h hq8)) z)
  refine' make_i2 (Z := (Dk3, tupO []) :: (q8, tupO us8) :: (Dk2, tupO []) :: (Dk, tupO []) :: Y) (al := []) (dk := .i 0) BM ?zF' XM TM rfl rfl ?za1' ?za2' NI (NU8.mono in1) ⟨?zo1', ?zo2', g7, c11, c12, c13⟩ lon (y2 gn z5) (y2 i7 z6) (y2 i8 z7) (y2 c13 z8) (all_cons (Nat.ne_of_gt k3) (all_cons (Nat.ne_of_gt hq8) z9)) ?zh1' ⟨_, _, rfl, .head _, .nil⟩ ⟨_, rfl⟩ ?zh2' ?zh3' ?zh4' ?zh5' ?zh6' ?zh7' fun h6 tk6 t6' q6 onu6 us6 F6 N6 NU6 hq6 hz6 => ?_
  case zF' => exact F9
  case za1' => first | exact dlek 4 hdp rfl | exact dlek 5 hdp rfl | exact dlek 6 hdp rfl
  case za2' => first | exact dlek 12 hun rfl | exact dlek 10 hun rfl | exact dlek 11 hun rfl
  case zo1' => exact l2
  case zo2' => exact Nat.lt_trans c3 (Nat.lt_trans c4 (Nat.lt_trans c5 (Nat.lt_trans c6 (Nat.lt_trans c7 c8))))
  case zh1' => decide +kernel
  case zh2' => rfl
  case zh3' => simp
  case zh4' => simp
  case zh5' => simp
  case zh6' => simp
  case zh7' => simp
  clear F9 NI y2
  have d6 : @LT.lt Nat _ Dk3 q6 := hz6 (Dk3, tupO []) (.head _)
  have dq6 : @LT.lt Nat _ d' q6 := Nat.lt_trans dd3 d6
  have N5 : News gM LM h6 ((x', instObj 677 d') :: (d', iDict2 w.params Lk Lk2 Lk3 Lk4 Lk5 Lk6 Lk7 Lk8 Lk9 nu kt2 12) :: (Lk6, LO ([Value.str (Str.ofString "") (ut 0), Value.str (Str.ofString "true") (ut2 0)] ++ [Value.str (Str.ofString "false") _]) 2) :: (Lk7, LO ([Value.ref Dk, Value.ref Dk2] ++ [Value.ref Dk3]) 2) :: (Lk8, LO ([Value.int 0 (ut 1), Value.int 0 (ut2 1)] ++ [Value.int 0 _]) 2) :: (Lk9, LO ([Value.int 0 (ut 2), Value.int 0 (ut2 2)] ++ [Value.int 0 _]) 2) :: (nu, onu6) :: (q6, tupO us6) :: (Dk3, tupO []) :: (q8, tupO us8) :: (Dk2, tupO []) :: (Dk, tupO []) :: Y) := N6
  clear N6
  obtain ⟨W3, hin, hne, N5⟩ := hide_tail (x := (q6, tupO us6)) (d := d') N5 mem5 (all_cons (Nat.ne_of_gt b6) (all_cons (Nat.ne_of_gt b7) (all_cons (Nat.ne_of_gt b8) (all_cons (Nat.ne_of_gt b9) (all_cons (Nat.ne_of_gt dn) (all_cons (Nat.ne_of_gt dq6) (all_cons (Nat.ne_of_gt dd3) (all_cons (Nat.ne_of_gt dq8) hn1))))))))
  rw [show (([Value.str (Str.ofString "") (ut 0), Value.str (Str.ofString "true") (ut2 0)].length : Nat) : Int) = 2 from rfl]
  dsimp only
  k_steps
  all_goals (try delta Stop)
  k_dflt (refine' newDict_K (by k_asm) (by k_asm) (TopRead.nolimit (by k_asm)) ?_)
  intro bv hbv obv _ _ lbv lob q1 q2 hdb q3
  k_lt lbv
  try k_sweep
  k_steps
  all_goals (try delta Stop)
  k_dflt (refine' newList_L (by k_asm) (by k_asm) (by simp) ?_)
  intro Lk10 _ _ _ lLk10
  k_lt lLk10
  try k_sweep
  k_steps
  all_goals (try delta Stop)
  rename Fr h₀ L' _ _ => F9
  rename News h₀ L' _ _ => N9
  subst hes
  have v2 : @LT.lt Nat _ q6 bv := by assumption
  have v1 := Nat.lt_trans hq6 v2
  have v3 : @LT.lt Nat _ bv Lk10 := by assumption
  have v4 := Nat.lt_trans (Nat.lt_trans gn v1) v3
  obtain ⟨kt3, ut3, NX⟩ : ∃ kt3 ut3 : Nat → Tok, News h₀ L' _ ((Lk10, LO [] 0) :: (bv, obv) :: (x', instObj 677 d') :: (d', bankDict w.params ⟨x', d', Lk, Lk2, Lk3, Lk4, Lk5, Lk6, Lk7, Lk8, Lk9, nu, bv, kt3, 14⟩) :: (Lk6, LO [.str (Str.ofString "") (ut 0), .str (Str.ofString "true") (ut2 0), .str (Str.ofString "false") (ut3 0)] 2) :: (Lk7, LO [.ref Dk, .ref Dk2, .ref Dk3] 2) :: (Lk8, LO [.int 0 (ut 1), .int 0 (ut2 1), .int 0 (ut3 1)] 2) :: (Lk9, LO [.int 0 (ut 2), .int 0 (ut2 2), .int 0 (ut3 2)] 2) :: (nu, onu6) :: (q6, tupO us6) :: (Dk3, tupO []) :: (q8, tupO us8) :: (Dk2, tupO []) :: (Dk, tupO []) :: Y) := ⟨fun i => [_, _, _, _, _, _, _, _, _, _, _, _, _, _, _, _, _].getD i 0, fun i => [_, _, _].getD i 0, news_sub N9 (sub_cons mem1 (sub_cons (in4 _ (hin _ mem0)) (sub_cons mem2 (sub_cons mem3 (sub_cons (in4 _ (hin _ mem2)) (sub_cons (in4 _ (hin _ mem3)) (sub_cons (in4 _ (hin _ mem4)) (sub_cons (in4 _ (hin _ mem5)) (sub_cons (in4 _ (hin _ mem6)) (sub_cons (in4 _ (hin _ mem7)) (sub_cons (in4 _ (hin _ mem8)) (sub_cons (in4 _ (hin _ mem9)) (sub_cons (in4 _ (hin _ mem10)) (sub_cons (in4 _ (hin _ mem11)) (fun p hp => in4 p (hin p (in12 p hp)))))))))))))))))⟩
  have O : (⟨x', d', Lk, Lk2, Lk3, Lk4, Lk5, Lk6, Lk7, Lk8, Lk9, nu, bv, kt3, 14⟩ : BA).Ord := ⟨⟨l2, c3, c4, Nat.lt_trans c5 (Nat.lt_trans c6 (Nat.lt_trans c7 c8)), g7, c11, c12, c13, v1⟩, lon, lob⟩
  have w1 := hz6 _ mem0; have w2 := hz6 _ mem1; have w3 := hz6 _ mem2; have w4 := hz6 _ mem3
  have ZO : (⟨x', d', Lk, Lk2, Lk3, Lk4, Lk5, Lk6, Lk7, Lk8, Lk9, nu, bv, kt3, 14⟩ : BA).Off ((q6, tupO us6) :: (Dk3, tupO []) :: (q8, tupO us8) :: (Dk2, tupO []) :: (Dk, tupO []) :: []) := off_nb (off_nb (off_nb (off_nb (off_tt off_nil9 O c9 c10) O c14 (Nat.lt_trans w3 v2)) O hq8 (Nat.lt_trans w2 v2)) O k3 (Nat.lt_trans w1 v2)) O hq6 v2
  have NUf : NuIs PySem.Challenge.rw_nz0152_01.row.prog w ((q6, tupO us6) :: (Dk3, tupO []) :: (q8, tupO us8) :: (Dk2, tupO []) :: (Dk, tupO []) :: []) onu6 _ := NU6.monoT fun a us h => ((@List.mem_append _ (a, tupO us) [(q6, tupO us6), (Dk3, tupO []), (q8, tupO us8), (Dk2, tupO []), (Dk, tupO [])] Y).mp h).elim id fun h => absurd rfl (yt _ h us)
  have I0 := binv0 (u0 := ut 0) (tt := ut2 0) (tf := ut3 0) (u2 := ut 1) (ua := ut2 1) (uc := ut3 1) (u3 := ut 2) (ub := ut2 2) (ud := ut3 2) (s0 := ut 3) (s1 := ut 4) (s2 := ut 5) (s3 := ut 6) (s4 := ut 7) (s5 := ut 8) (ti := Dk) (Da := Dk2) (Db := Dk3) NUf hdb mem4 mem3 mem1
  have x1 := c8; have x2 := Nat.lt_trans c7 c8; have x3 := Nat.lt_trans c6 x2; have x5 := c5; have x6 := Nat.lt_trans c5 c6; have x7 := Nat.lt_trans x6 c7
  have OFX : (⟨x', d', Lk, Lk2, Lk3, Lk4, Lk5, Lk6, Lk7, Lk8, Lk9, nu, bv, kt3, 14⟩ : BA).Off (pXS (⟨x', d', Lk, Lk2, Lk3, Lk4, Lk5, Lk6, Lk7, Lk8, Lk9, nu, bv, kt3, 14⟩ : BA) [] fd cl Lk10 L' ofd oF oS vs [] n 0 [] [] [] 0 0 0) := ((((off_st (off_st (off_st off_nil9 O x7 x1) O x6 x2) O x5 x3).above O v3).below O cS |>.below O cF).below O c1).below O cf
  have XL : ∀ x ∈ pXS (⟨x', d', Lk, Lk2, Lk3, Lk4, Lk5, Lk6, Lk7, Lk8, Lk9, nu, bv, kt3, 14⟩ : BA) [] fd cl Lk10 L' ofd oF oS vs [] n 0 [] [] [] 0 0 0, @LT.lt Nat _ x.1 Lk6 ∨ @LT.lt Nat _ q6 x.1 := all_cons (.inl (yl _ (yin _ mem6))) (all_cons (.inl (yl _ (yin _ mem5))) (all_cons (.inl (yl _ (yin _ mem8))) (all_cons (.inl (yl _ (yin _ mem7))) (all_cons (.inr (Nat.lt_trans v2 v3)) (all_cons (.inl (yl _ (yin _ mem2))) (all_cons (.inl (yl _ (yin _ mem1))) (all_cons (.inl (yl _ (yin _ mem0))) (fun _ h => nomatch h))))))))
  have PL : ∀ p ∈ (q6, tupO us6) :: (Dk3, tupO []) :: (q8, tupO us8) :: (Dk2, tupO []) :: (Dk, tupO []) :: [], @LT.lt Nat _ Lk6 p.1 ∧ @LE.le Nat _ p.1 q6 := all_cons (⟨Nat.lt_trans gn hq6, Nat.le_refl _⟩) (all_cons (⟨Nat.lt_trans gn k3, Nat.le_of_lt w1⟩) (all_cons (⟨Nat.lt_trans gn hq8, Nat.le_of_lt w2⟩) (all_cons (⟨Nat.lt_trans gn c14, Nat.le_of_lt w3⟩) (all_cons (⟨c9, Nat.le_of_lt w4⟩) (fun _ h => nomatch h)))))
  have BS : Beside (⟨x', d', Lk, Lk2, Lk3, Lk4, Lk5, Lk6, Lk7, Lk8, Lk9, nu, bv, kt3, 14⟩ : BA) (pXS (⟨x', d', Lk, Lk2, Lk3, Lk4, Lk5, Lk6, Lk7, Lk8, Lk9, nu, bv, kt3, 14⟩ : BA) [] fd cl Lk10 L' ofd oF oS vs [] n 0 [] [] [] 0 0 0) ((q6, tupO us6) :: (Dk3, tupO []) :: (q8, tupO us8) :: (Dk2, tupO []) :: (Dk, tupO []) :: []) := ⟨nt_p D6 hoF hoS (List.forall_mem_nil _), OFX, fun p hp x hx => (XL x hx).elim (fun h => Nat.ne_of_gt (Nat.lt_trans h (PL p hp).1)) fun h => Nat.ne_of_lt (Nat.lt_of_le_of_lt (PL p hp).2 h)⟩
  have ND : [fd, cl, L' + 1, L' + 1 + 1, Lk10, Lk3, Lk4, Lk5].Nodup := nd8 (Nat.lt_succ_self _) OX.2 OX.1 (Nat.lt_trans c1 (Nat.lt_trans l2 (Nat.lt_trans c3 (Nat.lt_trans c4 c5)))) c6 c7 (Nat.lt_trans c8 v4)
  with_reducible refine Shut.out ?_
  refine' (law_m2 (c := (⟨x', d', Lk, Lk2, Lk3, Lk4, Lk5, Lk6, Lk7, Lk8, Lk9, nu, bv, kt3, 14⟩ : BA)) (pl := Lk10) (oS := oS) (n := n) (pn := 0) (f1 := []) (f2 := []) (f3 := []) (n1 := 0) (n2 := 0) (n3 := 0) (unhid ho')) B1 F9 X1 T1 hdp hun XB TB ?yN BS ND hoF hoS I0 O ZO ⟨c6, c7⟩ ⟨OX.1, c1, v3⟩ cF ?ym1 ?ym2 ?ym3 hsl hsi hn0 hI hns hb0 hb1 ?ynop D6 hk0 hk1 ?yt ?ys ?yf1 ?yf2 ?yf3 (fun h' tk' m' F' => fin _ _ _ F') hE
  case ym1 => with_unfolding_all rfl
  case ym2 => with_unfolding_all rfl
  case ym3 => with_unfolding_all exact m3
  case yt => simp
  case ys => simp
  case yf1 => simp
  case yf2 => simp
  case yf3 => simp
  case ynop =>
    intro i T hi hT
    match i, hT, hi with
    | 1, hT, _ => cases hT; intro h; rcases h with h | h | h | h <;> exact absurd h (by decide)
    | 2, hT, _ => cases hT; intro h; rcases h with h | h | h | h <;> exact absurd h (by decide)
    | n + 3, hT, _ => simp at hT
  case yN => exact news_sub NX (sub_cons (in14 _ (yin _ mem6)) (sub_cons (in14 _ (yin _ mem5)) (sub_cons (in14 _ (yin _ mem8)) (sub_cons (in14 _ (yin _ mem7)) (sub_cons (mem0) (sub_cons (in14 _ (yin _ mem2)) (sub_cons (in14 _ (yin _ mem1)) (sub_cons (in14 _ (yin _ mem0)) (sub_cons (mem2) (sub_cons (mem3) (sub_cons (in14 _ (yin _ mem4)) (sub_cons (in14 _ (yin _ mem3)) (sub_cons (mem4) (sub_cons (mem5) (sub_cons (mem6) (sub_cons (mem7) (sub_cons (mem8) (sub_cons (mem1) (sub_cons (mem9) (sub_cons (mem10) (sub_cons (mem11) (sub_cons (mem12) (sub_cons (mem13) (sub_nil))))))))))))))))))))))))
end
end
section
open PySem PySem.W PySem.Calls PyProof.Rows
set_option hygiene false in
local macro_rules | `(tactic| walk_at "execs cons") => `(tactic| with_reducible refine st_asgT ?_)
theorem blend_lo : ∀ l : List Int, 0 ≤ (l.map (fun k' => (if k' < 0 then -k' else k').fmod 97)).sum
  | [] => Int.le_refl _
  | k :: l => by
    have h := blend_lo l
    have h1 : 0 ≤ (if k < 0 then -k else k).fmod 97 := Int.fmod_nonneg_of_pos _ (by decide)
    simp only [List.map_cons, List.sum_cons]
    omega
theorem blend_hi : ∀ l : List Int, (l.map (fun k' => (if k' < 0 then -k' else k').fmod 97)).sum ≤ 97 * (l.length : Int)
  | [] => Int.le_refl _
  | k :: l => by
    have h := blend_hi l
    have h1 : (if k < 0 then -k else k).fmod 97 < 97 := Int.fmod_lt_of_pos _ (by decide)
    simp only [List.map_cons, List.sum_cons, List.length_cons]
    omega
theorem in_sub {K : Frag} {h : Heap} (x : K.In h) : ∀ {l : Frag}, (l.map fun p => K.lookup p.1) = l.map (fun p => some p.2) → Frag.In l h := by
  intro l e a o
  induction l with
  | nil => intro e; cases e
  | cons p r ih =>
    obtain ⟨b, y⟩ := p
    simp only [List.map_cons, List.cons.injEq] at e
    intro e1
    simp only [List.lookup] at e1
    split at e1
    · rename_i q; cases e1; rw [beq_iff_eq.mp q]; exact x _ _ e.1
    · exact ih e.2 e1
theorem top.tw12950406680513090963 : True := trivial
theorem top.tw17172610754319748124 : True := trivial
theorem top.tw9342458669322021074 : True := trivial
theorem top.tw14618197357686495614 : True := trivial
theorem top.tw16541100652227675460 : True := trivial
theorem top.tw6568498558173435486 : True := trivial
theorem top.tw13854994762212257458 : True := trivial
theorem top.tw2017701967439429184 : True := trivial
theorem top.tw6899488460726452626 : True := trivial
theorem top.tw18064794426631996164 : True := trivial
theorem top.tw16984333698039989542 : True := trivial
theorem top.tw2429356701327127274 : True := trivial
theorem top.tw821533727693411082 : True := trivial
theorem top.tw4692057362534409150 : True := trivial
theorem top.tw2093333464667377861 : True := trivial
theorem top.tw4117511757204851855 : True := trivial
theorem top.tw6516153052968181925 : True := trivial
theorem top.tw4235907418283268690 : True := trivial
theorem top.tw15024216053386777475 : True := trivial
theorem top.tw931489599058222325 : True := trivial
theorem top.tw15003358760713899574 : True := trivial
theorem top.tw653121476165976413 : True := trivial
theorem top.tw13422432716488540661 : True := trivial
theorem top.tw3949973439248644570 : True := trivial
theorem top.tw4872296631132183273 : True := trivial
theorem top.tw650146959520709813 : True := trivial
theorem top.tw11384800866962632227 : True := trivial
theorem top.tw10548783162686979305 : True := trivial
theorem top.tw6749217079512962374 : True := trivial
theorem top.tw3846862658102513837 : True := trivial
theorem top.tw9962302188120564619 : True := trivial
theorem top.tw14526540143163920134 : True := trivial
theorem top.tw4736427724481360342 : True := trivial
theorem top.tw13830271770371739309 : True := trivial
theorem top.tw1734106126877513090 : True := trivial
theorem top.tw8345894832289464959 : True := trivial
theorem top.tw6520327441239513222 : True := trivial
theorem top.tw1974259917200649262 : True := trivial
theorem top.tw15638586536077026902 : True := trivial
theorem top.tw17555251805378815213 : True := trivial
theorem top.tw10987319290404115282 : True := trivial
theorem top.tw7059692629156357883 : True := trivial
theorem top.tw1068965626710143233 : True := trivial
theorem top.tw2502181453436431679 : True := trivial
theorem top.tw8817415213059835157 : True := trivial
theorem top.tw8679839319945467846 : True := trivial
theorem top.tw1706793611546318481 : True := trivial
theorem top.tw9936536881743500907 : True := trivial
theorem top.tw17022078359063049780 : True := trivial
theorem top.tw5738303106652476479 : True := trivial
theorem top.tw11835120745114892318 : True := trivial
theorem top.tw5341934141677670832 : True := trivial
theorem top.tw2063449620868658059 : True := trivial
theorem top.tw6583040956863952856 : True := trivial
theorem top.tw5240389563564037448 : True := trivial
theorem top.tw5251713544086459897 : True := trivial
theorem top.tw14248925298954806443 : True := trivial
theorem top.tw14549345611239918445 : True := trivial
theorem top.tw2859833716702649255 : True := trivial
theorem top.tw10871174231137468428 : True := trivial
theorem top.tw9684699057600944294 : True := trivial
theorem top.tw7249705126575804556 : True := trivial
theorem top.tw14987219478266130788 : True := trivial
theorem top.tw681777741448182936 : True := trivial
theorem top.tw8985709366574770022 : True := trivial
theorem top.tw4586369020291528013 : True := trivial
theorem top.tw11546936639936008217 : True := trivial
theorem top.tw13223034962123697568 : True := trivial
theorem top.tw8637452081102412489 : True := trivial
theorem top.tw17391775962083533515 : True := trivial
theorem top.tw17315540178315561739 : True := trivial
theorem top.tw6733462575251390621 : True := trivial
theorem top.tw8410488445778877200 : True := trivial
theorem top.tw568400683779154973 : True := trivial
theorem top.tw11842451847925006096 : True := trivial
theorem top.tw3820434133910038737 : True := trivial
theorem top.tw99440450732166138 : True := trivial
theorem top.tw6916252892733821390 : True := trivial
theorem top.tw9843949296442739443 : True := trivial
theorem top.tw17342085116792181814 : True := trivial
theorem top.tw18185382058313985135 : True := trivial
theorem top.tw11828478481110319688 : True := trivial
theorem top.tw1293289543672728842 : True := trivial
theorem top.tw2910609919460849807 : True := trivial
theorem top.tw4232285709927190386 : True := trivial
theorem top.tw15744752440731449612 : True := trivial
theorem top.tw16120041803238788101 : True := trivial
theorem top.tw16793365374058956912 : True := trivial
theorem top.tw13899568491130100285 : True := trivial
theorem top.tw5163715390036670947 : True := trivial
theorem top.tw3581848524822189991 : True := trivial
theorem top.tw3901323768455840569 : True := trivial
theorem top.tw65929781887070819 : True := trivial
theorem top.tw72247145696351765 : True := trivial
theorem top.tw1950521091445644615 : True := trivial
theorem top.tw10367675484739944270 : True := trivial
theorem top.tw9743097575036673082 : True := trivial
theorem top.tw7913636548009798097 : True := trivial
theorem top.tw1897025099450329940 : True := trivial
theorem top.tw16258771989139608452 : True := trivial
theorem top.tw16844067456194695469 : True := trivial
theorem top.tw8500458220134822360 : True := trivial
theorem top.tw10187264123177260123 : True := trivial
theorem top.tw8107780213005350392 : True := trivial
theorem top.tw2446586112883488508 : True := trivial
theorem top.tw11858546649754279707 : True := trivial
theorem top.tw11199532085631943738 : True := trivial
theorem top.tw1291508964198565346 : True := trivial
theorem top.tw5868845118606482295 : True := trivial
theorem top.tw18236624570336363585 : True := trivial
theorem top.tw9961057766049560675 : True := trivial
theorem top.tw81815255157605957 : True := trivial
theorem top.tw8184561461823581802 : True := trivial
theorem top.tw11133666699803404755 : True := trivial
theorem top.tw11457754044182789617 : True := trivial
theorem top.tw3570499242123996262 : True := trivial
theorem top.tw17176029603704830031 : True := trivial
theorem top.tw13307591127769906961 : True := trivial
theorem top.tw6505410396798821541 : True := trivial
theorem top.tw13985988839938425345 : True := trivial
theorem top.tw12182655422080760471 : True := trivial
theorem top.tw13264354339760550358 : True := trivial
theorem top.tw6906291655842520137 : True := trivial
theorem top.tw2965125352208521119 : True := trivial
theorem top.tw8265191368974092141 : True := trivial
theorem top.tw4773702212245658779 : True := trivial
theorem top.tw6623532728838073528 : True := trivial
theorem top.tw16900427199656544559 : True := trivial
theorem top.tw14459580976405569124 : True := trivial
theorem top.tw17565814175750979855 : True := trivial
theorem top.tw4551080515912023512 : True := trivial
theorem top.tw1284575025550258836 : True := trivial
theorem top.tw9233715247699887402 : True := trivial
theorem top.tw3453223234828964814 : True := trivial
theorem top.tw9059832203979395877 : True := trivial
theorem top.tw17921175469725437805 : True := trivial
theorem top.tw10567129059001840431 : True := trivial
theorem top.tw17683472795295644477 : True := trivial
theorem top.tw11982747722937265360 : True := trivial
theorem top.tw11779653239440661071 : True := trivial
theorem top.tw10768140376307724812 : True := trivial
theorem top.tw17355269125676882429 : True := trivial
theorem top.tw15383718091736126541 : True := trivial
theorem top.tw594810645892935528 : True := trivial
theorem top.tw15362295582089109014 : True := trivial
theorem top.tw3584897518013459382 : True := trivial
theorem top.tw15542334942015070624 : True := trivial
theorem top.tw1186331607622873149 : True := trivial
theorem top.tw4856909995586565122 : True := trivial
theorem top.tw10362775142378211054 : True := trivial
theorem top.tw9059672392935016618 : True := trivial
theorem top.tw5196900775432865589 : True := trivial
theorem top.tw516228168201391017 : True := trivial
theorem top.tw2165817408578904141 : True := trivial
theorem top.tw18134043772397237400 : True := trivial
theorem top.tw16866024460163772082 : True := trivial
theorem top.tw10562855833978642645 : True := trivial
theorem top.tw10194810499950245846 : True := trivial
theorem top.tw17788931634197215145 : True := trivial
theorem top.tw12317137736924338119 : True := trivial
theorem top.tw3855276242980373810 : True := trivial
theorem top.tw10617020205504526918 : True := trivial
theorem top.tw15245507539482535896 : True := trivial
theorem top.tw13822267516522204269 : True := trivial
theorem top.tw6908635100366463001 : True := trivial
theorem top.tw15874363893724204672 : True := trivial
theorem top.tw283044589724301 : True := trivial
theorem top.tw987869383939708018 : True := trivial
theorem top.tw8810280945414196856 : True := trivial
theorem top.tw6812286434817487243 : True := trivial
theorem top.tw4859757453598101857 : True := trivial
theorem top.tw13889309363888878346 : True := trivial
theorem top.tw12622177474791663080 : True := trivial
theorem top.tw8598144960395782539 : True := trivial
theorem top.tw2568384757666718300 : True := trivial
theorem top.tw5186518429493523239 : True := trivial
theorem top.tw53344730913325255 : True := trivial
theorem top.tw15877122091014420850 : True := trivial
theorem top.tw13305523845174962083 : True := trivial
theorem top.tw17981982808018919739 : True := trivial
theorem top.tw12287887523310495049 : True := trivial
theorem top.tw2617719716777270872 : True := trivial
theorem top.tw9614876229902214918 : True := trivial
theorem top.tw18245740138792012028 : True := trivial
theorem top.tw4695670854781333657 : True := trivial
theorem top.tw9990226795618131978 : True := trivial
theorem top.tw7213333562754528385 : True := trivial
theorem top.tw18374746225686918389 : True := trivial
theorem top.tw1353657120722975067 : True := trivial
theorem top.tw10017263926548143515 : True := trivial
theorem top.tw114735475811551136 : True := trivial
theorem top.tw887695700811335699 : True := trivial
theorem top.tw2809488002615124206 : True := trivial
theorem top.tw17542608870123051758 : True := trivial
theorem top.tw1676862907878916244 : True := trivial
theorem top.tw15271675978053873483 : True := trivial
theorem top.tw14657780768301432306 : True := trivial
theorem top.tw12535971307161669396 : True := trivial
theorem top.tw1516213087968936877 : True := trivial
theorem top.tw5667650583090716360 : True := trivial
theorem top.tw18121752080927795069 : True := trivial
theorem top.tw10404823597219466188 : True := trivial
theorem top.tw8321918168302905379 : True := trivial
theorem top.tw7429413206186439793 : True := trivial
theorem top.tw4047667213573674445 : True := trivial
theorem top.tw15092371282622821202 : True := trivial
theorem top.tw16204670001084760307 : True := trivial
theorem top.tw4655869559712951663 : True := trivial
theorem top.tw7358114872323791358 : True := trivial
theorem top.tw18034075008235765660 : True := trivial
theorem top.tw9063741608606530840 : True := trivial
theorem top.tw15361541807878343388 : True := trivial
theorem top.tw15976228082101565994 : True := trivial
theorem top.tw83393220934416808 : True := trivial
theorem top.tw2867133514656366558 : True := trivial
theorem top.tw4186445540838780016 : True := trivial
theorem top.tw11199710921928265848 : True := trivial
theorem top.tw1112988674713690477 : True := trivial
theorem top.tw304654302220672320 : True := trivial
theorem top.tw7386116660499605909 : True := trivial
theorem top.tw11845233108574324481 : True := trivial
theorem top.tw2287823674025257028 : True := trivial
theorem top.tw9919435345466941130 : True := trivial
theorem top.tw7587601194962177611 : True := trivial
theorem top.tw5244899138074338376 : True := trivial
theorem top.tw1754339480302792767 : True := trivial
theorem top.tw16264823338695392855 : True := trivial
theorem top.tw13290321428070320777 : True := trivial
theorem top.tw12638030207367898728 : True := trivial
theorem top.tw10414433010598505635 : True := trivial
theorem top.tw7250933059871147345 : True := trivial
theorem top.tw4784893810139332661 : True := trivial
theorem top.tw8237333600419904120 : True := trivial
theorem top.tw2972514686349903234 : True := trivial
theorem top.tw1886144042066472794 : True := trivial
theorem top.tw5303079699428457377 : True := trivial
theorem top.tw7033079012710635876 : True := trivial
theorem top.tw16262243036561855896 : True := trivial
theorem top.tw12554540806306477360 : True := trivial
theorem top.tw7436774141650363327 : True := trivial
theorem top.tw8374938949443298174 : True := trivial
theorem top.tw12342655685612074800 : True := trivial
theorem top.tw8025738503920905074 : True := trivial
theorem top.tw10936122117785486979 : True := trivial
theorem top.tw11917448952958348678 : True := trivial
theorem top.tw13091174067606910046 : True := trivial
theorem top.tw13799840507378627052 : True := trivial
theorem top.tw12819366960792805191 : True := trivial
theorem top.tw13191473780850816973 : True := trivial
theorem top.tw1304757597395314617 : True := trivial
theorem top.tw427420600052151026 : True := trivial
theorem top.tw17050326753033342646 : True := trivial
theorem top.tw14611434983143301774 : True := trivial
theorem top.tw15286249088069653756 : True := trivial
theorem top.tw13370750898655102155 : True := trivial
theorem top.tw18289109515434150305 : True := trivial
theorem top.tw18326957874037197240 : True := trivial
theorem top.tw15095372191486117680 : True := trivial
theorem top.tw12080426169559351053 : True := trivial
theorem top.tw8297286125493194097 : True := trivial
theorem top.tw7444641836354208208 : True := trivial
theorem top.tw2377541652452675900 : True := trivial
theorem top.tw381845443943030031 : True := trivial
theorem top.tw13802547742096326172 : True := trivial
theorem top.tw492879137614061493 : True := trivial
theorem top.tw17469865338272021226 : True := trivial
theorem top.tw705360758644809490 : True := trivial
theorem top.tw16982378080980825192 : True := trivial
theorem top.tw1236304545764765349 : True := trivial
theorem top.tw17492772389151264855 : True := trivial
theorem top.tw13890846271309207196 : True := trivial
theorem top.tw14042817526060737062 : True := trivial
theorem top.tw11613256710310857696 : True := trivial
theorem top.tw13120753694373217308 : True := trivial
theorem top.tw1792224892710378537 : True := trivial
theorem top.tw13549259019975226677 : True := trivial
theorem top.tw6345181382737326586 : True := trivial
theorem top.tw8693662901424576113 : True := trivial
theorem top.tw2896640688883821729 : True := trivial
theorem top.tw2670627174450433442 : True := trivial
theorem top.tw16759092144687519636 : True := trivial
theorem top.tw1212798325632107971 : True := trivial
theorem top.tw8372035913837991250 : True := trivial
theorem top.tw4158126171336067921 : True := trivial
theorem top.tw3422688185749166683 : True := trivial
theorem top.tw15058813355848621054 : True := trivial
theorem top.tw12520176845478516731 : True := trivial
theorem top.tw12210559395081530917 : True := trivial
theorem top.tw3002795768020413707 : True := trivial
theorem top.tw5590232498371695878 : True := trivial
theorem top.tw2770239361232196585 : True := trivial
theorem top.tw3479634599624807885 : True := trivial
theorem top.tw10773188271377071773 : True := trivial
theorem top.tw5155950481276406077 : True := trivial
theorem top.tw15735037969156040135 : True := trivial
theorem top.tw10797620697341660853 : True := trivial
theorem top.tw10195997230039290492 : True := trivial
theorem top.tw4699463449715708850 : True := trivial
theorem top.tw9178861053002065721 : True := trivial
theorem top.tw11468358511172941013 : True := trivial
theorem top.tw14645912567700417926 : True := trivial
theorem top.tw47109162367338493 : True := trivial
theorem top.tw14263998999751124003 : True := trivial
theorem top.tw13994475860397038760 : True := trivial
theorem top.tw4977374598719398275 : True := trivial
theorem top.tw9407396174263392564 : True := trivial
theorem top.tw9335426496214029073 : True := trivial
theorem top.tw9229161468869434483 : True := trivial
theorem top.tw9165953624949470791 : True := trivial
theorem top.tw8973803690348224638 : True := trivial
theorem top.tw8143265674769528471 : True := trivial
theorem top.tw7439886461454727182 : True := trivial
theorem top.tw7414872774492366064 : True := trivial
theorem top.tw6756851087969907010 : True := trivial
theorem top.tw649594095290182367 : True := trivial
theorem top.tw6448850889433096767 : True := trivial
theorem top.tw6287420888163001789 : True := trivial
theorem top.tw46980244435833615 : True := trivial
theorem top.tw4258143625173308034 : True := trivial
theorem top.tw4052878762203253943 : True := trivial
theorem top.tw3831216023754155268 : True := trivial
theorem top.tw352232786441526191 : True := trivial
theorem top.tw3207569582813703071 : True := trivial
theorem top.tw2686433634493928565 : True := trivial
theorem top.tw2683898200743741643 : True := trivial
theorem top.tw2617181576586992344 : True := trivial
theorem top.tw2565563351968343141 : True := trivial
theorem top.tw2057334267981633021 : True := trivial
theorem top.tw17089494485692210459 : True := trivial
theorem top.tw16034636559557993077 : True := trivial
theorem top.tw15508944514630427714 : True := trivial
theorem top.tw14142502885225118848 : True := trivial
theorem top.tw13820912127525551613 : True := trivial
theorem top.tw12904532413392791838 : True := trivial
theorem top.tw12762922103008790111 : True := trivial
theorem top.tw12385144161495827662 : True := trivial
theorem top.tw12105128591322288922 : True := trivial
theorem top.tw11466170419677230873 : True := trivial
theorem top.tw11173010173815179391 : True := trivial
theorem top.tw11159431927160009238 : True := trivial
theorem top.tw11145643937294416527 : True := trivial
theorem top.tw11141966352661209427 : True := trivial
theorem top.tw10296497611174029103 : True := trivial
theorem top.tw10276331973627342096 : True := trivial
theorem top.tw17470836177267949868 : True := trivial
theorem top.tw2464713573024523455 : True := trivial
theorem top.tw14857507284847092098 : True := trivial
theorem top.tw9854493187847425173 : True := trivial
theorem top.tw7657828476027519975 : True := trivial
theorem top.tw18367679650794681301 : True := trivial
theorem top.tw4498253355057717688 : True := trivial
theorem top.tw7892811243723596987 : True := trivial
theorem top.tw668136137496459709 : True := trivial
theorem top.tw9759319705405543751 : True := trivial
theorem top.tw9666326922614434849 : True := trivial
theorem top.tw9576743257966636567 : True := trivial
theorem top.tw8547604310838440241 : True := trivial
theorem top.tw7215319984434753242 : True := trivial
theorem top.tw5647976800219259906 : True := trivial
theorem top.tw3776753064480771068 : True := trivial
theorem top.tw2707679213066786127 : True := trivial
theorem top.tw17576975557295073227 : True := trivial
theorem top.tw17434308400759680031 : True := trivial
theorem top.tw16896751376397280635 : True := trivial
theorem top.tw16734371015571099844 : True := trivial
theorem top.tw16656781636731879198 : True := trivial
theorem top.tw1592229195962567352 : True := trivial
theorem top.tw14826035006057030972 : True := trivial
theorem top.tw14608685727046917156 : True := trivial
theorem top.tw14450715343900746980 : True := trivial
theorem top.tw14145802354927516647 : True := trivial
theorem top.tw12609604535291364189 : True := trivial
theorem top.tw11189890337720088615 : True := trivial
theorem top.tw10885322118463539834 : True := trivial
theorem top.tw10361075674979980167 : True := trivial
theorem top.tw1638113669730673903 : True := trivial
theorem top.tw10657950659306570408 : True := trivial
theorem top.tw7297446738713254254 : True := trivial
theorem top.tw18085771088847121727 : True := trivial
theorem top.tw9238823003894178615 : True := trivial
theorem top.tw16104615914030681952 : True := trivial
theorem top.tw2782073688633401757 : True := trivial
theorem top.tw1209819496270969543 : True := trivial
theorem top.tw7280543176740627685 : True := trivial
theorem top.tw9800703332001039478 : True := trivial
theorem top.tw9486757043174368735 : True := trivial
theorem top.tw8620165645458168473 : True := trivial
theorem top.tw7847650389618582240 : True := trivial
theorem top.tw453181688931711583 : True := trivial
theorem top.tw3389129807090800087 : True := trivial
theorem top.tw3195968871104189447 : True := trivial
theorem top.tw2924597203103170677 : True := trivial
theorem top.tw2167618695193717045 : True := trivial
theorem top.tw16439428074185983240 : True := trivial
theorem top.tw16273406610938067001 : True := trivial
theorem top.tw1492452104121835379 : True := trivial
theorem top.tw14502225709538309166 : True := trivial
theorem top.tw14319750081657075607 : True := trivial
theorem top.tw14309182039651084788 : True := trivial
theorem top.tw14308104382005812605 : True := trivial
theorem top.tw13844505572957833930 : True := trivial
theorem top.tw1195175773429642966 : True := trivial
theorem top.tw10505224238033894595 : True := trivial
theorem top.tw14771320824794740959 : True := trivial
theorem top.tw14632489290957082403 : True := trivial
theorem top.tw13177472732611162249 : True := trivial
theorem top.tw15646934709686841381 : True := trivial
theorem top.tw14402358008270493973 : True := trivial
theorem top.tw17807222030613408314 : True := trivial
theorem top.tw8148004212497801138 : True := trivial
theorem top.tw9673933992889287130 : True := trivial
theorem top.tw5597187220613765494 : True := trivial
theorem top.tw16597617366809209970 : True := trivial
theorem top.tw14823308797102314842 : True := trivial
theorem top.tw7990429038631628895 : True := trivial
theorem top.tw13369591340354186047 : True := trivial
theorem top.tw4835499133494076262 : True := trivial
theorem top.tw7458633546980236471 : True := trivial
theorem top.tw9739860059890490050 : True := trivial
theorem top.tw8999917154711486175 : True := trivial
theorem top.tw8140125068956082859 : True := trivial
theorem top.tw7761843605638006849 : True := trivial
theorem top.tw6664487174759623829 : True := trivial
theorem top.tw5225153198818245361 : True := trivial
theorem top.tw501154541418245514 : True := trivial
theorem top.tw4046864289407762814 : True := trivial
theorem top.tw342308947776675178 : True := trivial
theorem top.tw2985252069258134486 : True := trivial
theorem top.tw1971433849790844608 : True := trivial
theorem top.tw17135812771915316397 : True := trivial
theorem top.tw1697544655201012999 : True := trivial
theorem top.tw16795567611416646642 : True := trivial
theorem top.tw15451780782824253742 : True := trivial
theorem top.tw13385244156195431271 : True := trivial
theorem top.tw1321871150748368714 : True := trivial
theorem top.tw1294077662247117797 : True := trivial
theorem top.tw9601329371697537090 : True := trivial
theorem top.tw1040915598704419856 : True := trivial
theorem top.tw9305691244287143441 : True := trivial
theorem top.tw10005945817407372193 : True := trivial
theorem top.tw7079599612431449588 : True := trivial
theorem top.tw6662652255960138227 : True := trivial
theorem top.tw5766051744304087583 : True := trivial
theorem top.tw4468942710605802240 : True := trivial
theorem top.tw5118827330378232414 : True := trivial
theorem top.tw9503340733035011235 : True := trivial
theorem top.tw9378254376102152143 : True := trivial
theorem top.tw8813761850579938390 : True := trivial
theorem top.tw859137505422859605 : True := trivial
theorem top.tw5970215366352900667 : True := trivial
theorem top.tw2732273902793177162 : True := trivial
theorem top.tw18237780215024852062 : True := trivial
theorem top.tw1732150942055357024 : True := trivial
theorem top.tw15878805988109762761 : True := trivial
theorem top.tw13896958669275611876 : True := trivial
theorem top.tw12540527436937284434 : True := trivial
theorem top.tw11459358961799972967 : True := trivial
theorem top.tw10008474027749305400 : True := trivial
theorem top.tw18086089286151905521 : True := trivial
theorem top.tw8735323631387419056 : True := trivial
theorem top.tw5105846836358774362 : True := trivial
theorem top.tw3120133295221510679 : True := trivial
theorem top.tw13160728816969591200 : True := trivial
theorem top.tw12488038555639769405 : True := trivial
theorem top.tw11377482038585738817 : True := trivial
theorem top.tw16149628235652541579 : True := trivial
theorem top.tw14983691940233647259 : True := trivial
theorem top.tw1245559373397905713 : True := trivial
theorem top.tw12012865196380796599 : True := trivial
theorem top.tw5483185372664623402 : True := trivial
theorem top.tw16836452506482946331 : True := trivial
theorem top.tw3969286963782609292 : True := trivial
theorem top.tw1139600151236580504 : True := trivial
theorem top.tw14901070454687303710 : True := trivial
theorem top.tw10079171474624433434 : True := trivial
theorem top.tw3473093325804163894 : True := trivial
theorem top.tw12329864456250741675 : True := trivial
theorem top.tw17219337458794519322 : True := trivial
theorem top.tw17103585973383926153 : True := trivial
theorem top.tw16453443671601555132 : True := trivial
theorem top.tw14747140909534839006 : True := trivial
theorem top.tw14724332232928298890 : True := trivial
theorem top.tw14399976873020721970 : True := trivial
theorem top.tw13420762306968818387 : True := trivial
theorem top.tw8455645898260960030 : True := trivial
theorem top.tw5379463472682653830 : True := trivial
theorem top.tw4807402645868434406 : True := trivial
theorem top.tw2307138979858485370 : True := trivial
theorem top.tw2104741419117168686 : True := trivial
theorem top.tw9272544492142499777 : True := trivial
theorem top.tw8657480035899644758 : True := trivial
theorem top.tw7671549972530922468 : True := trivial
theorem top.tw6572447435987645144 : True := trivial
theorem top.tw6430265229019958763 : True := trivial
theorem top.tw6240723676877644813 : True := trivial
theorem top.tw6124053682588569230 : True := trivial
theorem top.tw5983031951866500094 : True := trivial
theorem top.tw4058662728301269685 : True := trivial
theorem top.tw3254097082911018636 : True := trivial
theorem top.tw8507776931139520737 : True := trivial
theorem top.tw16542083797698202722 : True := trivial
theorem top.tw15740088241188596515 : True := trivial
theorem top.tw8281120267493503204 : True := trivial
theorem top.tw8043003576528973991 : True := trivial
theorem top.tw3764141193738528704 : True := trivial
theorem top.tw9631074621892390191 : True := trivial
theorem top.tw953821971998124167 : True := trivial
theorem top.tw9328819404386307858 : True := trivial
theorem top.tw5088376156974544275 : True := trivial
theorem top.tw2685745773621513544 : True := trivial
theorem top.tw17886615442053742456 : True := trivial
theorem top.tw16612331741718818515 : True := trivial
theorem top.tw146815374380898660 : True := trivial
theorem top.tw14597223018079223185 : True := trivial
theorem top.tw14235281626263879747 : True := trivial
theorem top.tw13902025155065610156 : True := trivial
theorem top.tw12783364522390391256 : True := trivial
theorem top.tw9456006794991739263 : True := trivial
theorem top.tw16719718919923625709 : True := trivial
theorem top.tw104434173382791472 : True := trivial
theorem top.tw17741875731164886585 : True := trivial
theorem top.tw14371913498598963198 : True := trivial
theorem top.tw12894197372075662830 : True := trivial
theorem top.tw10915162052029792233 : True := trivial
theorem top.tw2722852734226103192 : True := trivial
theorem top.tw1833847959688406909 : True := trivial
theorem top.tw1655259298481077034 : True := trivial
theorem top.tw16878204669230926818 : True := trivial
theorem top.tw2506305409684761478 : True := trivial
theorem top.tw16415559393655328363 : True := trivial
theorem top.tw995497684801637723 : True := trivial
theorem top.tw9953747333497923681 : True := trivial
theorem top.tw9951221954081769418 : True := trivial
theorem top.tw9913501989792142831 : True := trivial
theorem top.tw9854310039474760501 : True := trivial
theorem top.tw9851269098105209369 : True := trivial
theorem top.tw984902984118615328 : True := trivial
theorem top.tw9843447840031818808 : True := trivial
theorem top.tw9833397302626899308 : True := trivial
theorem top.tw9768079942903668216 : True := trivial
theorem top.tw9723989250521069032 : True := trivial
theorem top.tw9685713192446186341 : True := trivial
theorem top.tw9590735534726013551 : True := trivial
theorem top.tw956089473029861405 : True := trivial
theorem top.tw9516688046558066552 : True := trivial
theorem top.tw9514800995652322822 : True := trivial
theorem top.tw9442318146202087700 : True := trivial
theorem top.tw9382581127745807760 : True := trivial
theorem top.tw9366391650621772374 : True := trivial
theorem top.tw9361663168868926718 : True := trivial
theorem top.tw9332579688445097367 : True := trivial
theorem top.tw93012567124736588 : True := trivial
theorem top.tw9259421805112917234 : True := trivial
theorem top.tw9233335307524088747 : True := trivial
theorem top.tw9227541089923242437 : True := trivial
theorem top.tw9227057690007400460 : True := trivial
theorem top.tw9195894827357321740 : True := trivial
theorem top.tw9166809390415177425 : True := trivial
theorem top.tw9152664641465651067 : True := trivial
theorem top.tw9149571693438533347 : True := trivial
theorem top.tw9108098604805947806 : True := trivial
theorem top.tw9038659593494541401 : True := trivial
theorem top.tw8968299171318014206 : True := trivial
theorem top.tw8912170899635468890 : True := trivial
theorem top.tw8823455108540655025 : True := trivial
theorem top.tw8800459187187324500 : True := trivial
theorem top.tw877433047237710547 : True := trivial
theorem top.tw8729362747519067210 : True := trivial
theorem top.tw8694864300669457046 : True := trivial
theorem top.tw8672883130414831044 : True := trivial
theorem top.tw8645369167282567922 : True := trivial
theorem top.tw8640399195822439974 : True := trivial
theorem top.tw8622502720953521162 : True := trivial
theorem top.tw8560541052185303311 : True := trivial
theorem top.tw8538268897159353584 : True := trivial
theorem top.tw8523463495250067690 : True := trivial
theorem top.tw8472579005086612782 : True := trivial
theorem top.tw8443935842833279946 : True := trivial
theorem top.tw8435561252592420358 : True := trivial
theorem top.tw8420165910927482534 : True := trivial
theorem top.tw8369368087495890639 : True := trivial
theorem top.tw8311017846404947139 : True := trivial
theorem top.tw8265311939077410998 : True := trivial
theorem top.tw8212240652046128837 : True := trivial
theorem top.tw8204474986945543665 : True := trivial
theorem top.tw8170299122808406783 : True := trivial
theorem top.tw8150499350492408157 : True := trivial
theorem top.tw814325599930780420 : True := trivial
theorem top.tw8069049012094873728 : True := trivial
theorem top.tw8054331753737935190 : True := trivial
theorem top.tw795583310449317561 : True := trivial
theorem top.tw788273225186049534 : True := trivial
theorem top.tw7855079511596107753 : True := trivial
theorem top.tw7847352863974893604 : True := trivial
theorem top.tw7845129631348957993 : True := trivial
theorem top.tw7830913209206220567 : True := trivial
theorem top.tw7817637940432870852 : True := trivial
theorem top.tw7744093853086628109 : True := trivial
theorem top.tw7715697345341360870 : True := trivial
theorem top.tw7702549930194098719 : True := trivial
theorem top.tw7681529838311687354 : True := trivial
theorem top.tw7673058066778466091 : True := trivial
theorem top.tw7538252964068480738 : True := trivial
theorem top.tw7527032243904285869 : True := trivial
theorem top.tw7522852383072776753 : True := trivial
theorem top.tw7325726471975496349 : True := trivial
theorem top.tw7313339093194340965 : True := trivial
theorem top.tw728428047077509346 : True := trivial
theorem top.tw7204998973626084599 : True := trivial
theorem top.tw7204493036743257322 : True := trivial
theorem top.tw7198060816514059695 : True := trivial
theorem top.tw7108139096449030536 : True := trivial
theorem top.tw708234853630380328 : True := trivial
theorem top.tw7008692893051332821 : True := trivial
theorem top.tw6973401727384321114 : True := trivial
theorem top.tw6930518751129746686 : True := trivial
theorem top.tw6919701780365589675 : True := trivial
theorem top.tw6898770573198911631 : True := trivial
theorem top.tw6893477703608230032 : True := trivial
theorem top.tw6885214360128481674 : True := trivial
theorem top.tw6786057226368545225 : True := trivial
theorem top.tw6761616313442571491 : True := trivial
theorem top.tw6756868429301003459 : True := trivial
theorem top.tw6746510453823603384 : True := trivial
theorem top.tw6674990990233134667 : True := trivial
theorem top.tw6659320528611288953 : True := trivial
theorem top.tw661290744650703789 : True := trivial
theorem top.tw6503730183909636620 : True := trivial
theorem top.tw6438537300738474071 : True := trivial
theorem top.tw6431110157172167083 : True := trivial
theorem top.tw6383614241601562808 : True := trivial
theorem top.tw6381231289166406305 : True := trivial
theorem top.tw6370870915552960936 : True := trivial
theorem top.tw6333448901615975916 : True := trivial
theorem top.tw6292954644110606532 : True := trivial
theorem top.tw6286779285267259847 : True := trivial
theorem top.tw6265701101103706036 : True := trivial
theorem top.tw6211089042160764376 : True := trivial
theorem top.tw620129878449983639 : True := trivial
theorem top.tw6196800358849779857 : True := trivial
theorem top.tw6189502492464219833 : True := trivial
theorem top.tw6187478851450931391 : True := trivial
theorem top.tw6176384092110617959 : True := trivial
theorem top.tw6143595290313323761 : True := trivial
theorem top.tw6075534854705499898 : True := trivial
theorem top.tw6042063481754889096 : True := trivial
theorem top.tw5969682004907312646 : True := trivial
theorem top.tw5938664839603501006 : True := trivial
theorem top.tw5915399644114372684 : True := trivial
theorem top.tw5889316905344633881 : True := trivial
theorem top.tw5860347150701562758 : True := trivial
theorem top.tw5790966258338625528 : True := trivial
theorem top.tw575894324575664597 : True := trivial
theorem top.tw5728218623943512802 : True := trivial
theorem top.tw5702910450625016506 : True := trivial
theorem top.tw5692499903750754813 : True := trivial
theorem top.tw5648408011753718230 : True := trivial
theorem top.tw5609151216138764652 : True := trivial
theorem top.tw5581607755468803823 : True := trivial
theorem top.tw5513142621748847562 : True := trivial
theorem top.tw5507162329139097715 : True := trivial
theorem top.tw5444345374180229054 : True := trivial
theorem top.tw5398424786039705171 : True := trivial
theorem top.tw5278709424875269971 : True := trivial
theorem top.tw5245862010334584759 : True := trivial
theorem top.tw5235370132326077648 : True := trivial
theorem top.tw5225916559131626549 : True := trivial
theorem top.tw5176459694589498394 : True := trivial
theorem top.tw5072613934562372735 : True := trivial
theorem top.tw4951766788466123468 : True := trivial
theorem top.tw4940147422707163885 : True := trivial
theorem top.tw4885547446624616799 : True := trivial
theorem top.tw4840481374290595910 : True := trivial
theorem top.tw4807692442873511580 : True := trivial
theorem top.tw4791253341166991637 : True := trivial
theorem top.tw479018264907363369 : True := trivial
theorem top.tw4713442408853163898 : True := trivial
theorem top.tw4705723845826882120 : True := trivial
theorem top.tw4656485037274611717 : True := trivial
theorem top.tw462939625794472801 : True := trivial
theorem top.tw4626048006780466326 : True := trivial
theorem top.tw4597200072644226624 : True := trivial
theorem top.tw4555866861457887817 : True := trivial
theorem top.tw4547113066930546574 : True := trivial
theorem top.tw4547018644641229820 : True := trivial
theorem top.tw4392038535549328194 : True := trivial
theorem top.tw4383139521930768336 : True := trivial
theorem top.tw4331257952254489624 : True := trivial
theorem top.tw4321519831107876412 : True := trivial
theorem top.tw4299629679881509495 : True := trivial
theorem top.tw427269002284569659 : True := trivial
theorem top.tw4250950275838387964 : True := trivial
theorem top.tw4250876409542091131 : True := trivial
theorem top.tw4205137553216949640 : True := trivial
theorem top.tw4177254973167742082 : True := trivial
theorem top.tw4166218997396506358 : True := trivial
theorem top.tw4159251561096739476 : True := trivial
theorem top.tw4131498621145694574 : True := trivial
theorem top.tw401921906979044612 : True := trivial
theorem top.tw4002441696211005659 : True := trivial
theorem top.tw3976154599441133093 : True := trivial
theorem top.tw390997316461189296 : True := trivial
theorem top.tw3909029901177050473 : True := trivial
theorem top.tw3767615275625035234 : True := trivial
theorem top.tw3739144386018749749 : True := trivial
theorem top.tw3730354652608582461 : True := trivial
theorem top.tw372964977893139469 : True := trivial
theorem top.tw3715792687998586317 : True := trivial
theorem top.tw370947364307004932 : True := trivial
theorem top.tw3704924817259034979 : True := trivial
theorem top.tw3696473221133414273 : True := trivial
theorem top.tw3669314199184481253 : True := trivial
theorem top.tw3664424711883983056 : True := trivial
theorem top.tw3644161924160858147 : True := trivial
theorem top.tw3603051052118289896 : True := trivial
theorem top.tw3548060758652744671 : True := trivial
theorem top.tw350670483859837877 : True := trivial
theorem top.tw3486219094355674750 : True := trivial
theorem top.tw3484022092364678248 : True := trivial
theorem top.tw3474246075231452896 : True := trivial
theorem top.tw3465488137227279516 : True := trivial
theorem top.tw3423177367516475676 : True := trivial
theorem top.tw339143206060000330 : True := trivial
theorem top.tw3378803678994701225 : True := trivial
theorem top.tw3357215229441099570 : True := trivial
theorem top.tw3337584539547039419 : True := trivial
theorem top.tw3331421620988305804 : True := trivial
theorem top.tw3315250197877816394 : True := trivial
theorem top.tw3195522803047326042 : True := trivial
theorem top.tw314455870634268127 : True := trivial
theorem top.tw3143785405151724282 : True := trivial
theorem top.tw3087888393795971977 : True := trivial
theorem top.tw3033006917804047512 : True := trivial
theorem top.tw297971269722091814 : True := trivial
theorem top.tw2975709217455756120 : True := trivial
theorem top.tw2968346561183084112 : True := trivial
theorem top.tw2926424126403749041 : True := trivial
theorem top.tw2907113945770861938 : True := trivial
theorem top.tw2878843996050045342 : True := trivial
theorem top.tw2847958352784047137 : True := trivial
theorem top.tw2822501910515967889 : True := trivial
theorem top.tw2812155379371279736 : True := trivial
theorem top.tw2770563814800254177 : True := trivial
theorem top.tw2752453847809088016 : True := trivial
theorem top.tw2731995056826638727 : True := trivial
theorem top.tw2727672472851901052 : True := trivial
theorem top.tw2685012915969955173 : True := trivial
theorem top.tw2675166985342186458 : True := trivial
theorem top.tw2665807947273092163 : True := trivial
theorem top.tw2630061898475652689 : True := trivial
theorem top.tw2596539476470345881 : True := trivial
theorem top.tw2580922434103091657 : True := trivial
theorem top.tw2555065506035805374 : True := trivial
theorem top.tw2544169868661182894 : True := trivial
theorem top.tw2514443458684651071 : True := trivial
theorem top.tw2443449257678562572 : True := trivial
theorem top.tw2417791160451022400 : True := trivial
theorem top.tw2405475915293451298 : True := trivial
theorem top.tw2365566498512967660 : True := trivial
theorem top.tw2312856594315299383 : True := trivial
theorem top.tw2287362676942042354 : True := trivial
theorem top.tw2249405535684624136 : True := trivial
theorem top.tw216529984938456764 : True := trivial
theorem top.tw2145171640123136144 : True := trivial
theorem top.tw2126296398998916975 : True := trivial
theorem top.tw2105017259488925948 : True := trivial
theorem top.tw2103985501979894447 : True := trivial
theorem top.tw2047500489365003465 : True := trivial
theorem top.tw2029088862249889922 : True := trivial
theorem top.tw2009410202504348048 : True := trivial
theorem top.tw2007660962349395123 : True := trivial
theorem top.tw1988063486488863061 : True := trivial
theorem top.tw196536941598035525 : True := trivial
theorem top.tw1880918794155911695 : True := trivial
theorem top.tw18371284783138465269 : True := trivial
theorem top.tw18330144715369815205 : True := trivial
theorem top.tw18229784292405043182 : True := trivial
theorem top.tw18200808041648558556 : True := trivial
theorem top.tw1814787853859245837 : True := trivial
theorem top.tw18137363274558907533 : True := trivial
theorem top.tw18063644159110109576 : True := trivial
theorem top.tw18062624165398249997 : True := trivial
theorem top.tw1803303928475200142 : True := trivial
theorem top.tw18016941796951652274 : True := trivial
theorem top.tw18008055252877512497 : True := trivial
theorem top.tw17964300760807480141 : True := trivial
theorem top.tw17953984050398360512 : True := trivial
theorem top.tw17785818512168800811 : True := trivial
theorem top.tw17781115878593249900 : True := trivial
theorem top.tw17735899436944072409 : True := trivial
theorem top.tw17709558473723601244 : True := trivial
theorem top.tw17594962761535629368 : True := trivial
theorem top.tw17576949682797635024 : True := trivial
theorem top.tw17494340499879156831 : True := trivial
theorem top.tw17444329988762607307 : True := trivial
theorem top.tw17431308487043992063 : True := trivial
theorem top.tw17428532607074087071 : True := trivial
theorem top.tw17395277212465857529 : True := trivial
theorem top.tw17366924284538989914 : True := trivial
theorem top.tw1736530178072539846 : True := trivial
theorem top.tw17346259052997144950 : True := trivial
theorem top.tw17323899518341599180 : True := trivial
theorem top.tw1717825165581474212 : True := trivial
theorem top.tw17177869089781658578 : True := trivial
theorem top.tw17103177528636943170 : True := trivial
theorem top.tw17085176360113175178 : True := trivial
theorem top.tw17030962893124633753 : True := trivial
theorem top.tw17009415399725018624 : True := trivial
theorem top.tw16885616592811714743 : True := trivial
theorem top.tw16809779246217341487 : True := trivial
theorem top.tw16800595933775061595 : True := trivial
theorem top.tw16739174306508632950 : True := trivial
theorem top.tw1670607248958778201 : True := trivial
theorem top.tw16674975167109581930 : True := trivial
theorem top.tw16526113553464788058 : True := trivial
theorem top.tw16525863338940772298 : True := trivial
theorem top.tw16420938139371093754 : True := trivial
theorem top.tw16414630628198896168 : True := trivial
theorem top.tw16357309143852133390 : True := trivial
theorem top.tw16352630495959832749 : True := trivial
theorem top.tw16325430554902658873 : True := trivial
theorem top.tw16281582537960229878 : True := trivial
theorem top.tw16196420915677631385 : True := trivial
theorem top.tw16174758807025615021 : True := trivial
theorem top.tw1617357707322924660 : True := trivial
theorem top.tw16155163154822807229 : True := trivial
theorem top.tw16123964013534891561 : True := trivial
theorem top.tw16058212318047004132 : True := trivial
theorem top.tw16007503158450755388 : True := trivial
theorem top.tw15985961358823992270 : True := trivial
theorem top.tw15911569825323301435 : True := trivial
theorem top.tw1585457916280141200 : True := trivial
theorem top.tw1584292188352093569 : True := trivial
theorem top.tw15823732540823425666 : True := trivial
theorem top.tw15799541711010589177 : True := trivial
theorem top.tw15740948416001004644 : True := trivial
theorem top.tw15696354942287192291 : True := trivial
theorem top.tw15687709949711836451 : True := trivial
theorem top.tw1559226430018442191 : True := trivial
theorem top.tw15569959144833144457 : True := trivial
theorem top.tw1551491737661789689 : True := trivial
theorem top.tw15503665604740900718 : True := trivial
theorem top.tw15299407806266782574 : True := trivial
theorem top.tw15254643099363442306 : True := trivial
theorem top.tw15240379268576122478 : True := trivial
theorem top.tw15212760480394562756 : True := trivial
theorem top.tw15169761463676818070 : True := trivial
theorem top.tw15166127791298437107 : True := trivial
theorem top.tw15125931889511115149 : True := trivial
theorem top.tw14917401599646851644 : True := trivial
theorem top.tw1486479319815781832 : True := trivial
theorem top.tw14796646475526232899 : True := trivial
theorem top.tw14762295962024373759 : True := trivial
theorem top.tw14697636140705633519 : True := trivial
theorem top.tw14671331368771545958 : True := trivial
theorem top.tw14615657086365298920 : True := trivial
theorem top.tw14466935161476858967 : True := trivial
theorem top.tw14453841093610474573 : True := trivial
theorem top.tw14390669486469195807 : True := trivial
theorem top.tw14301671488300290737 : True := trivial
theorem top.tw14282377253939248939 : True := trivial
theorem top.tw14214845130331304391 : True := trivial
theorem top.tw14214649769353832295 : True := trivial
theorem top.tw14168018189251442112 : True := trivial
theorem top.tw14029182922437419836 : True := trivial
theorem top.tw1400011881503588481 : True := trivial
theorem top.tw13987285891283452908 : True := trivial
theorem top.tw13983857475226248213 : True := trivial
theorem top.tw1394568958698188020 : True := trivial
theorem top.tw13928562000808390012 : True := trivial
theorem top.tw13922054642007902626 : True := trivial
theorem top.tw13901205277877782832 : True := trivial
theorem top.tw13889484949932952446 : True := trivial
theorem top.tw13864677062968915208 : True := trivial
theorem top.tw13759081321499198575 : True := trivial
theorem top.tw13706816188851595723 : True := trivial
theorem top.tw13500427573557490136 : True := trivial
theorem top.tw13385996262653078937 : True := trivial
theorem top.tw13370185576492129568 : True := trivial
theorem top.tw13359135706311490777 : True := trivial
theorem top.tw13345470168829271861 : True := trivial
theorem top.tw13326734554550294991 : True := trivial
theorem top.tw13318506193475082254 : True := trivial
theorem top.tw13303987763403120937 : True := trivial
theorem top.tw132903981291199154 : True := trivial
theorem top.tw13187519465064655849 : True := trivial
theorem top.tw13178059906610389163 : True := trivial
theorem top.tw13167462122316868159 : True := trivial
theorem top.tw13134186033006778460 : True := trivial
theorem top.tw13068111086705522682 : True := trivial
theorem top.tw13047834502658803893 : True := trivial
theorem top.tw13044034144603486326 : True := trivial
theorem top.tw13029900630750994668 : True := trivial
theorem top.tw13012589842206080548 : True := trivial
theorem top.tw13001836021917841797 : True := trivial
theorem top.tw1297684725254868899 : True := trivial
theorem top.tw12958664272152378060 : True := trivial
theorem top.tw12958502747184954254 : True := trivial
theorem top.tw12879618353801967718 : True := trivial
theorem top.tw12865423146811077096 : True := trivial
theorem top.tw12787338502077490372 : True := trivial
theorem top.tw1275901062530889299 : True := trivial
theorem top.tw12718909917080609646 : True := trivial
theorem top.tw12643520174271941249 : True := trivial
theorem top.tw12625694945159114441 : True := trivial
theorem top.tw12559286593441436923 : True := trivial
theorem top.tw12483720753089274532 : True := trivial
theorem top.tw12427389293880184781 : True := trivial
theorem top.tw12425085872883035938 : True := trivial
theorem top.tw12392516345856041104 : True := trivial
theorem top.tw12376051458212225564 : True := trivial
theorem top.tw12340227926317113386 : True := trivial
theorem top.tw12318557346453588183 : True := trivial
theorem top.tw12209182163369298222 : True := trivial
theorem top.tw12166907935582030026 : True := trivial
theorem top.tw12117888159696746259 : True := trivial
theorem top.tw11994683656316670133 : True := trivial
theorem top.tw1192657577511650299 : True := trivial
theorem top.tw11922380849998532372 : True := trivial
theorem top.tw11765434788231831023 : True := trivial
theorem top.tw11762496359356365647 : True := trivial
theorem top.tw1169771345039838236 : True := trivial
theorem top.tw11620634932572840514 : True := trivial
theorem top.tw11593399256984752444 : True := trivial
theorem top.tw11592465598724292549 : True := trivial
theorem top.tw11584198869435930015 : True := trivial
theorem top.tw11582926029173025856 : True := trivial
theorem top.tw11577829705659331004 : True := trivial
theorem top.tw11542710104232473196 : True := trivial
theorem top.tw1147548669246485465 : True := trivial
theorem top.tw11470690223818410786 : True := trivial
theorem top.tw11443710868159068359 : True := trivial
theorem top.tw11430207588045935325 : True := trivial
theorem top.tw1142415686869020238 : True := trivial
theorem top.tw11423202765487971197 : True := trivial
theorem top.tw11383000496634168614 : True := trivial
theorem top.tw11334415319851112604 : True := trivial
theorem top.tw11334203419191126389 : True := trivial
theorem top.tw1124271682379634556 : True := trivial
theorem top.tw1123975283337734383 : True := trivial
theorem top.tw11116745826364501430 : True := trivial
theorem top.tw11053662475850362967 : True := trivial
theorem top.tw10956490626425055710 : True := trivial
theorem top.tw1088946173253831356 : True := trivial
theorem top.tw10864713392326063847 : True := trivial
theorem top.tw10836530967397901330 : True := trivial
theorem top.tw10801874191123338550 : True := trivial
theorem top.tw10783980745131425670 : True := trivial
theorem top.tw10774637447528242797 : True := trivial
theorem top.tw10694878333477680388 : True := trivial
theorem top.tw10648311167861321448 : True := trivial
theorem top.tw10643057118474118344 : True := trivial
theorem top.tw10579768621468169598 : True := trivial
theorem top.tw10577272966987657301 : True := trivial
theorem top.tw1054488965285714247 : True := trivial
theorem top.tw10467260515200827399 : True := trivial
theorem top.tw10448899703829047738 : True := trivial
theorem top.tw1043701613660472097 : True := trivial
theorem top.tw10399464001100048223 : True := trivial
theorem top.tw10341860258655708415 : True := trivial
theorem top.tw10317287140990440334 : True := trivial
theorem top.tw10252623693936335467 : True := trivial
theorem top.tw10187724287525710026 : True := trivial
theorem top.tw1016984595167383106 : True := trivial
theorem top.tw10090393231696489298 : True := trivial
theorem top.tw10006222313960134694 : True := trivial
theorem top.tw10001883323181062329 : True := trivial
set_option maxHeartbeats 8000000 in
set_option Elab.async true in
theorem top : PySem.Challenge.rw_nz0152_01.Holds := by
  (w_on; o_law; k_head; (case hw => w_witness2); w_strict (k_go0; (all_goals try k_fold); k_steps; (
    rename World => w
    rename Fr _ _ _ _ => F9
    rename News _ _ _ _ => N9
    rename Below _ _ _ _ => B9
    rename Frag.In _ _ => X8
    rename Top _ _ _ _ _ _ => T9
    rename Heap.IsList _ _ _ => L9
    rename Obj.IsDictOf _ _ (strPairs _) => D9
    rename ¬ _ < _ => c9
    have ho' := by
      k_dflt (refine' hid_lk (K := heap w.params) (f := 741) ?h)
      case h => k_is
    have X9 : (heap w.params).In _ := in_sub X8 (by kernel_rfl)
    refine' law_m1 (dp := 301) (un := 4) (unhid ho') ?zB ?zF ?zX ?zT ?zdp ?zun ?zXB ?zTB ?zN ?zoF ?zoS ?zOX ?zm3 ?zL ?zsi ?zn0 ?zI ?zns ?zb0 ?zb1 ?zD ?zk0 ?zk1 ?zfin ?zE
    case zB => exact B9
    case zF => exact F9
    case zX => exact X9
    case zT => exact T9
    case zXB => exact X9
    case zTB => exact T9
    case zD => exact D9
    case zN => exact news_sub N9 (by k_all)
    case zL => exact L9
    case zsi => assumption
    case zdp => show (301 : Nat) ≤ 410; omega
    case zun => show (4 : Nat) ≤ 300; omega
    case zoF => assumption
    case zoS => assumption
    case zOX => constructor <;> (show @LT.lt Nat _ _ _; omega)
    case zm3 => with_unfolding_all rfl
    case zn0 => omega
    case zI => assumption
    case zns => rw [List.length_take]; omega
    case zb0 => exact blend_lo _
    case zb1 => exact Int.le_trans (blend_hi _) (by rw [List.length_take]; omega)
    case zk0 => decide
    case zk1 => decide
    case zfin =>
      intro h' tk' m' FZ
      k_steps
      all_goals (try delta Stop)
      all_goals close_w
    case zE => passes_own)))
end
end
end Mine
theorem PySem.Challenge.cw_nz0152_01_holds : PySem.Challenge.rw_nz0152_01.Holds :=
  Mine.top
